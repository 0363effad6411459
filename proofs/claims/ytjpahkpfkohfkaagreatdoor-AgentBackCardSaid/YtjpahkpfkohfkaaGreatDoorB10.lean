/- Guides and contracts, printed by a program.
   The pairs of candidates that fit, gathered: a range D7 a function (a method value), put together by hand.
   The pairs that wait, set: a range D7 a map whose rounds come out alike in whatever order they are made.
   Guides and contracts, printed by a program.
   Guides and contracts, printed by a program. -/
import Derived.Test.YtjpahkpfkohfkaaGreatDoorB9
import Derived.Test.YtjpahkpfkohfkaaGreatDoorB6
import Derived.Test.YtjpahkpfkohfkaaGreatDoorB8
import Derived.Test.YtjpahkpfkohfkaaGreatDoorB7
import Derived.KernelRfl
set_option linter.unusedVariables false
set_option linter.unusedSimpArgs false
namespace Go.Proofs.YtjpahkpfkohfkaaGreatDoor
open Go Go.EV
set_option maxRecDepth 100000
structure V4 where
 a0:ByteArray
 a1:ByteArray
structure R6 where
 fk:V4
 fv:Int
def C3:Ty R6:=⟨fun x=>[.str x.fk.a0,.str x.fk.a1,.i x.fv],fun x=>[.str x.fk.a0,.str x.fk.a1,.i x.fv],fun _=>rfl,fun _=>rfl,fun _ _=>rfl,fun _=>rfl⟩
noncomputable def s156_1 (p0:Bool) (p1 p2:List Q3) (p3:Q9):EV.Spec Tryz.prog GG (Int):=.ofFn 156 Q8 Tryz.func156 (show FnD Tryz.prog GG [0,1,3,4,5,6,7,34] Tryz.f156 [.snap [.bool p0,.sl false 8 (List.map Q0.c p1),.sl false 8 (List.map Q0.c p2),.nilsl],.agg (Q2.c p3)] (
 .row 1008 Q0 p1 p3.fLocal.toNat (decide (0≤p3.fLocal)) fun x283=>
 .row 1018 Q0 p2 p3.fRemote.toNat (decide (0≤p3.fRemote)) fun x284=>
 .bind 0
 (.br 0 (!p0)
  (.done (x284.fPriority,x283.fPriority))
  (.done (x283.fPriority,x284.fPriority)))
 (fun(e285:Int×Int)=>Ext.lit .normal [(4,.i 0),(5,.i e285.1),(6,.i e285.2)] [])
 (fun e285=>
  .call 4003 (s183 e285.1 e285.2) [] [] fun r286=>
  .done r286.1):TT (Int)) (fun r=>.int .i64 r) by unfold FnD;kernel_rfl)
noncomputable def s159 (p0:Int):EV.Spec Tryz.prog GG (Bool):=.ofFn 159 Q8 Tryz.func159 (show FnD Tryz.prog GG [0,2] Tryz.f159 [.i p0] (
 .done (p0 != p0):TT (Bool)) (fun r=>.bool r) by unfold FnD;kernel_rfl)
noncomputable def s81 (p0 p1:Int):EV.Spec Tryz.prog GG (Int):=.ofFn 81 Q8 Tryz.func81 (show FnD Tryz.prog GG [0,1,4,5,6,11,12,13,16,19] Tryz.f81 [.i p0,.i p1] (
 .call 1002 (s159 p0) [] [] fun r292=>
 .call 2002 (s159 p1) [] [] fun r293=>
 .br 0 r292
 (.br 0 r293
  (.done 0)
  (.done (-1)))
 (.br 0 r293
  (.done 1)
  (.br 0 (decide (p0 < p1))
   (.done (-1))
   (.br 0 (decide (p1 < p0))
    (.done 1)
    (.done 0)))):TT (Int)) (fun r=>.int .i64 r) by unfold FnD;kernel_rfl)
noncomputable def s80 (p0 p1:Q9):EV.Spec Tryz.prog GG (Int):=.ofFn 80 Q8 Tryz.func80 (show FnD Tryz.prog GG [0,1,2,3,4] Tryz.f80 [.agg (Q2.c p0),.agg (Q2.c p1)] (
 .call 1005 (s81 p1.fPriority p0.fPriority) [] [] fun r294=>
 .done r294:TT (Int)) (fun r=>.int .i64 r) by unfold FnD;kernel_rfl)
noncomputable def s221 (p0:Nat) (p1 p2:Int) (p3:List Q9):EV.Spec Tryz.prog GG ((List Q9)):=.ofFnB 221 [1000000] Q8 Tryz.func221 rfl (fun _=>rfl) (show FnB Tryz.prog GG [0,1,2,3,8,9,14,34] Tryz.f221 [.ref 1000000 0 p0,.i p1,.i p2,.fn 80 [] []] (Ext.of .normal (W0 [.ref 1000000 0 p0,.i p1,.i p2,.fn 80 [] []]) [] [BT.of 1000000 Q2 4 p3 true] (by rfl)) (
 .bind 1
 (.lp (fun(l330:(List Q9)×Int)=>Ext.of .normal [(0,.ref 1000000 0 p0),(1,.i p1),(2,.i p2),(3,.fn 80 [] []),(8,.i l330.2)] [] [BT.of 1000000 Q2 4 l330.1 true] (by rfl))
  (fun l330=>
   .br 0 (decide (l330.2 < p2))
   (.bind 2
    (.lp (fun(l340:(List Q9)×Int)=>Ext.of .normal [(0,.ref 1000000 0 p0),(1,.i p1),(2,.i p2),(3,.fn 80 [] []),(8,.i l330.2),(9,.i l340.2)] [] [BT.of 1000000 Q2 4 l340.1 true] (by rfl))
     (fun l340=>
      .cnd 4 [34]
      (.br 4005 (decide (p1 < l340.2))
       (.chk 4008 (decide (0≤l340.2)&&decide (l340.2 < (p0:Int))) (.row 4009 Q2 l340.1 (0+l340.2.toNat) true fun x341=>
        .chk 4013 (decide (0≤(Q7 (l340.2 - 1)))&&decide ((Q7 (l340.2 - 1)) < (p0:Int))) (.row 4014 Q2 l340.1 (0+(Q7 (l340.2 - 1)).toNat) true fun x342=>
        .call 4015 (s80 x341 x342) [] [] fun r343=>
        .done (decide (r343 < 0)))))
       (.done false))
      (fun(c344:Bool)=>[.bool c344]) fun c344=>
      .br 0 c344
      (.chk 6009 (decide (0≤(Q7 (l340.2 - 1)))&&decide ((Q7 (l340.2 - 1)) < (p0:Int))) (.row 6010 Q2 l340.1 (0+(Q7 (l340.2 - 1)).toNat) true fun x345=>
       .chk 6013 (decide (0≤l340.2)&&decide (l340.2 < (p0:Int))) (.row 6014 Q2 l340.1 (0+l340.2.toNat) true fun x346=>
       .chk 6015 (decide (0≤l340.2)&&decide (l340.2 < (p0:Int))) (.row 6016 Q2 l340.1 (0+l340.2.toNat) true fun x347=>
       .re 6016 (ReW.put 1000000 4 Q2 l340.1 (0+l340.2.toNat) x345) (.chk 6017 (decide (0≤(Q7 (l340.2 - 1)))&&decide ((Q7 (l340.2 - 1)) < (p0:Int))) (.row 6018 Q2 (l340.1.set (0+l340.2.toNat) x345) (0+(Q7 (l340.2 - 1)).toNat) true fun x348=>
       .re 6018 (ReW.put 1000000 4 Q2 (l340.1.set (0+l340.2.toNat) x345) (0+(Q7 (l340.2 - 1)).toNat) x346) (.done (.inl (((l340.1.set (0+l340.2.toNat) x345).set (0+(Q7 (l340.2 - 1)).toNat) x346),(Q7 (l340.2 - 1)))))))))))
      (.done (.inr l340.1)))
     (l330.1,l330.2))
    (fun(e349:(List Q9))=>Ext.of (.exit 2) [(0,.ref 1000000 0 p0),(1,.i p1),(2,.i p2),(3,.fn 80 [] []),(8,.i l330.2)] [] [BT.of 1000000 Q2 4 e349 true] (by rfl))
    (fun e349=>
     .done (.inl (e349,(Q7 (l330.2+1))))))
   (.done (.inr l330.1)))
  (p3,(Q7 (p1+1))))
 (fun(e350:(List Q9))=>Ext.of (.exit 0) [] [] [BT.of 1000000 Q2 4 e350 true] (by rfl))
 (fun e350=>
  .done e350):TT ((List Q9))) (fun(r:(List Q9))=>.tup []) (fun(r:(List Q9))=>Ext.of .normal [] [] [BT.of 1000000 Q2 4 r true] (by rfl)) by unfold FnB;kernel_rfl)
noncomputable def s158 (p0:Nat) (p1:Int) (p2:List Q9):EV.Spec Tryz.prog GG ((List Q9)):=.ofFnB 158 [1000000] Q8 Tryz.func158 rfl (fun _=>rfl) (show FnB Tryz.prog GG [0,1,2,6,7,8,9,13,30,35,54] Tryz.f158 [.ref 1000000 0 p0,.i p1,.fn 80 [] []] (Ext.of .normal (W0 [.ref 1000000 0 p0,.i p1,.fn 80 [] []]) [] [BT.of 1000000 Q2 4 p2 true] (by rfl)) (
 .bind 1
 (.lp (fun(l311:(List Q9)×Int×Int)=>Ext.of .normal [(0,.ref 1000000 0 p0),(1,.i p1),(2,.fn 80 [] []),(6,.i 20),(7,.i l311.2.1),(8,.i l311.2.2)] [] [BT.of 1000000 Q2 4 l311.1 true] (by rfl))
  (fun l311=>
   .br 0 (decide (l311.2.2≤p1))
   (.call 3005 (s221 p0 l311.2.1 l311.2.2 l311.1) [(1000000,1000000)] [] fun r321=>
    .done (.inl (r321,l311.2.2,(Q7 (l311.2.2+20)))))
   (.done (.inr (l311.1,l311.2.1))))
  (p2,0,20))
 (fun(e322:(List Q9)×Int)=>Ext.of (.exit 0) [(0,.ref 1000000 0 p0),(1,.i p1),(2,.fn 80 [] []),(6,.i 20),(7,.i e322.2)] [] [BT.of 1000000 Q2 4 e322.1 true] (by rfl))
 (fun e322=>
  .call 6005 (s221 p0 e322.2 p1 e322.1) [(1000000,1000000)] [] fun r332=>
  .bind 1
  (.lp (fun(l336:Int)=>Ext.of .normal [(0,.ref 1000000 0 p0),(1,.i p1),(2,.fn 80 [] []),(6,.i l336)] [] [BT.of 1000000 Q2 4 r332 true] (by rfl))
   (fun l336=>
    .br 0 (decide (l336 < p1))
    (.bind 2
     (.lp (fun(l337:Unit)=>Ext.of .normal [(0,.ref 1000000 0 p0),(1,.i p1),(2,.fn 80 [] []),(6,.i l336),(7,.i 0),(8,.i (Q7 ((2:Int) * l336)))] [] [BT.of 1000000 Q2 4 r332 true] (by rfl))
      (fun l337=>
       .br 0 (decide ((Q7 ((2:Int) * l336))≤p1))
       (.fail)
       (.done (.inr ())))
      ())
     (fun(e338:Unit)=>Ext.of (.exit 4) [(0,.ref 1000000 0 p0),(1,.i p1),(2,.fn 80 [] []),(6,.i l336),(7,.i 0)] [] [BT.of 1000000 Q2 4 r332 true] (by rfl))
     (fun e338=>
      .br 0 (decide ((Q7 ((0:Int)+l336)) < p1))
      (.fail)
      (.done (.inl (Q7 (l336 * 2))))))
    (.done (.inr ())))
   20)
  (fun(e339:Unit)=>Ext.of (.exit 2) [] [] [BT.of 1000000 Q2 4 r332 true] (by rfl))
  (fun e339=>
   .done r332)):TT ((List Q9))) (fun(r:(List Q9))=>.tup []) (fun(r:(List Q9))=>Ext.of .normal [] [] [BT.of 1000000 Q2 4 r true] (by rfl)) by unfold FnB;kernel_rfl)
noncomputable def s79 (p0:Nat) (p1:List Q9):EV.Spec Tryz.prog GG ((List Q9)):=.ofFnB 79 [1000000] Q8 Tryz.func79 rfl (fun _=>rfl) (show FnB Tryz.prog GG [0,1] Tryz.f79 [.ref 1000000 0 p0,.fn 80 [] []] (Ext.of .normal (W0 [.ref 1000000 0 p0,.fn 80 [] []]) [] [BT.of 1000000 Q2 4 p1 true] (by rfl)) (
 .call 5 (s158 p0 (p0:Int) p1) [(1000000,1000000)] [] fun r340=>
 .done r340:TT ((List Q9))) (fun(r:(List Q9))=>.tup []) (fun(r:(List Q9))=>Ext.of .normal [] [] [BT.of 1000000 Q2 4 r true] (by rfl)) by unfold FnB;kernel_rfl)
end Go.Proofs.YtjpahkpfkohfkaaGreatDoor
namespace Go.Proofs.YtjpahkpfkohfkaaGreatDoor
open Go Go.EV
set_option maxRecDepth 100000
def paC (x:Q9):List V:=[.int .i64 x.fLocal,.int .i64 x.fRemote,.int .i64 x.fPriority,.int .i64 x.fState]
def caC (x:Q3):List V:=[.int .i64 x.fKind,.int .i64 x.fComponent,.int .i64 x.fPriority,.str x.fFoundation,.str x.fAddr.fHost,.int .i64 x.fAddr.fPort,.str x.fBase.fHost,.int .i64 x.fBase.fPort]
def paO (out:List Q9):V:=.ref 1900070 0 out.length
def paTs:List (Nat×V):=[(6,.ptr 1000006 0 0),(7,.int .i64 0),(8,.ptr 1700061 0 0),(9,.ptr 1000009 0 0),(49,.fn 78 [.ptr 1700061 0 0] [])]
def paL (c:Bool) (ls rs:List Q3) (o:V):List (Nat×Blk):=
 [(1000006,⟨4,true,[[.bool false,.nilsl,.nilsl,.nilsl]]⟩),(1000009,⟨1,true,[[o]]⟩),(1700061,⟨4,true,[[.bool c,.ref 1700062 0 ls.length,.ref 1700063 0 rs.length,.nilsl]]⟩)]
def paT (ls rs:List Q3) (out:List Q9):List BT:=[BT.of 1900070 Q2 4 out true,BT.of 1700062 Q0 8 ls true,BT.of 1700063 Q0 8 rs true]
def paX (ts:List (Nat×V)) (c:Bool) (ls rs:List Q3) (out:List Q9):Ext:=Ext.of .normal ts (paL c ls rs (paO out)) (paT ls rs out) (by rfl)
def paB (c:Bool) (ls rs:List Q3) (out:List Q9):List (Nat×Blk):=(paX [] c ls rs out).bs
def cRn:Code→Code
 | .seq _ (.scope (.seq _ (.seq _ (.seq _ (.seq _ (.seq (.seq _ (.block _ c)) _))))))=>c
 | _=>.skip
noncomputable def paR:Code:=cRn (Tryz.f33.body.getD .skip)
noncomputable def paAs:Code:=rAssign paR
noncomputable def paBd:Code:=rBody paR
section
variable (c:Bool) (ls rs:List Q3) (out:List Q9)
def xRa (x:Q9):Ext:=paX ((50,.agg (paC x)) :: paTs) c ls rs out
def xRb (x:Q9):Ext:=Ext.of .normal (paTs++[(10,.ptr 10 0 0)]) ((10,⟨4,true,[paC x]⟩) :: paL c ls rs (paO out)) (paT ls rs out) (by rfl)
def xRd (x:Q9):Ext:=Ext.of .normal [] (paL c ls rs (.ref 54 0 (out++[x]).length)) [BT.of 54 Q2 4 (out++[x]) true,BT.of 1700062 Q0 8 ls true,BT.of 1700063 Q0 8 rs true] (by rfl)
theorem kRa (x:Q9):Z9 Tryz.prog GG [6,7,8,9,10,49] 154 paAs (xRa c ls rs out x) (.done ():TT Unit) (fun _=>xRb c ls rs out x):=by unfold Z9;kernel_rfl
def gRd (x:Q9):TT Unit:=.app 9004 Q2 out [x] 32 false (by intro h;cases h) (.done ())
theorem kRd (x:Q9):Z9 Tryz.prog GG [54] 154 paBd (xRb c ls rs out x) (gRd out x) (fun _=>xRd c ls rs out x):=by unfold Z9;kernel_rfl
end
theorem mob9 {c:Bool} {ls rs:List Q3} {out:List Q9} {x:Q9} {g:St} (h:Gst GG g ((xRd c ls rs out x).D 154).st):Gst GG g (E5 154 (fun _=>.undef) (ofL (paB c ls rs (out++[x])))):=
 Gst.trans h (Gst.mob (lits:=paL c ls rs (.ref 54 0 (out++[x]).length)) (rest:=[(1700062,(BT.of 1700062 Q0 8 ls true).k),(1700063,(BT.of 1700063 Q0 8 rs true).k)]) (kd:=(BT.of 54 Q2 4 (out++[x]) true).k) (d:=54) (m:=1900070) (n:=154)
  (by decide) (by decide) (by decide) (by decide:([1000006,1000009,1700061,54,1700062,1700063]:List Nat).Nodup) (Q2.data _) (by
   intro p hp
   simp only[List.mem_cons,List.not_mem_nil,or_false] at hp
   rcases hp with rfl|rfl
   ·exact Q0.data ls
   ·exact Q0.data rs) (by rfl) (by rfl))
theorem roundMake (c:Bool) (ls rs:List Q3) (out:List Q9) (x:Q9) (hb:(gRd out x).run=some ()) :
  RoundT Tryz.prog GG 154 (tOf paTs) [50] paAs paBd (ofL (paB c ls rs out)) [.agg (paC x)] (fun e b'=>e=.normal∧b'=ofL (paB c ls rs (out++[x]))):=by
 refine⟨((xRb c ls rs out x).D 154).st,?_,?_⟩
 ·have h:=(kRa c ls rs out x).tv Q8 (r:=()) rfl (by rfl)
  have e:((xRa c ls rs out x).D 154).st=setP (E5 154 (tOf paTs) (ofL (paB c ls rs out))) ([50].zip [.agg (paC x)]):=by
   rw[O5 (by rfl)]
   exact(setP_susp 154 paTs _ 50 (.agg (paC x))).symm
  rw[e] at h
  exact h
 ·refine((kRd c ls rs out x).tv Q8 hb (by rfl)).mono fun e s' hg=>?_
  obtain⟨rfl,g⟩:=hg
  exact⟨_,154,⟨rfl,rfl⟩,mob9 g⟩
def paArgs (l:Nat):List V:=[.ptr 1700061 0 0,.yld l]
noncomputable def cIt:Code:=Tryz.f78.body.getD .skip
noncomputable def iR0:Code:=cL cIt
noncomputable def cOut:Code:=cB (cB (cR cIt))
noncomputable def iR1:Code:=cL cOut
noncomputable def cO2:Code:=cB (cL (cR (cR cOut)))
noncomputable def iR2:Code:=cL cO2
noncomputable def iR3:Code:=cL (cR cO2)
noncomputable def cIn:Code:=cB (cB (cR (cR cO2)))
noncomputable def iR10:Code:=cR (cR (cR cOut))
noncomputable def iR4:Code:=cL cIn
noncomputable def cI2:Code:=cB (cL (cR (cR cIn)))
noncomputable def iR5:Code:=cL cI2
noncomputable def iR6:Code:=cL (cR cI2)
noncomputable def iR7:Code:=cL (cR (cR cI2))
noncomputable def ops8:Array Oper:=rOps (cL (cR (cR (cR cI2))))
noncomputable def iR9:Code:=cR (cR (cR cIn))
theorem eIt:cIt=.seq iR0 (.block 0 (.loop cOut)):=by kernel_rfl
theorem eOut:cOut=.seq iR1 (.seq (.cond (.tmp 16) .skip (.exit 0)) (.seq (.block 1 (.seq iR2 (.seq iR3 (.block 2 (.loop cIn))))) iR10)):=by kernel_rfl
theorem eIn:cIn=.seq iR4 (.seq (.cond (.tmp 27) .skip (.exit 2)) (.seq (.block 3 (.seq iR5 (.seq iR6 (.seq iR7 (.seq (.region 8 ops8 false) (.cond (.tmp 46) .ret .skip)))))) iR9)):=by kernel_rfl
section
variable (l:Nat) (c:Bool) (ls rs:List Q3)
def tA (i:Int):List (Nat×V):=[(0,.ptr 1700061 0 0),(1,.yld l),(13,.ref 1700062 0 ls.length),(14,.int .i64 (ls.length:Int)),(15,.int .i64 i)]
def tB (i:Int) (a:Q3):List (Nat×V):=tA l ls i++[(4,.int .i64 i),(5,.snap (caC a))]
def tC (i k:Int) (a:Q3):List (Nat×V):=tB l ls i a++[(24,.ref 1700063 0 rs.length),(25,.int .i64 (rs.length:Int)),(26,.int .i64 k)]
def tD (i k:Int) (a:Q3):List (Nat×V):=tC l ls rs i k a++[(6,.int .i64 k),(7,.ptr 7 0 0)]
def tE (i k:Int) (a:Q3):List (Nat×V):=tD l ls rs i k a++[(8,.ptr 8 0 0)]
def xI (out:List Q9):Ext:=paX (W0 (paArgs l)) c ls rs out
def xA (i:Int) (out:List Q9):Ext:=paX (tA l ls i) c ls rs out
def xA1 (i:Int) (out:List Q9):Ext:=paX (tA l ls i++[(16,.bool (decide (i < (ls.length:Int))))]) c ls rs out
def xB0 (i:Int) (a:Q3) (out:List Q9):Ext:=Ext.of .normal (tA l ls i++[(4,.i i),(5,.ptr 5 0 0)]) ((5,⟨8,true,[caC a]⟩) :: paL c ls rs (paO out)) (paT ls rs out) (by rfl)
def xB (i:Int) (a:Q3) (out:List Q9):Ext:=paX (tB l ls i a) c ls rs out
def xC (i k:Int) (a:Q3) (out:List Q9):Ext:=paX (tC l ls rs i k a) c ls rs out
def xC1 (i k:Int) (a:Q3) (out:List Q9):Ext:=paX (tC l ls rs i k a++[(27,.bool (decide (k < (rs.length:Int))))]) c ls rs out
def xD (i k:Int) (a b:Q3) (out:List Q9):Ext:=Ext.of .normal (tD l ls rs i k a) ((7,⟨8,true,[caC b]⟩) :: paL c ls rs (paO out)) (paT ls rs out) (by rfl)
def xE (i k p:Int) (a b:Q3) (out:List Q9):Ext:=Ext.of .normal (tE l ls rs i k a) ((7,⟨8,true,[caC b]⟩) :: (8,⟨4,true,[paC ⟨i,k,p,0⟩]⟩) :: paL c ls rs (paO out)) (paT ls rs out) (by rfl)
def tF (i k p:Int) (f:Bool):List (Nat×V):=bif f then [(41,.bool true),(42,.yld l),(43,.agg (paC ⟨i,k,p,0⟩))] else [(41,.bool false),(42,.tup []),(43,.tup [])]
def xF (i k p:Int) (a b:Q3) (out:List Q9) (f:Bool):Ext:=Ext.of .normal (tE l ls rs i k a++tF l i k p f) ((7,⟨8,true,[caC b]⟩) :: (8,⟨4,true,[paC ⟨i,k,p,0⟩]⟩) :: paL c ls rs (paO out)) (paT ls rs out) (by rfl)
def xG (i k p:Int) (a:Q3) (out:List Q9) (f:Bool):Ext:=paX (tC l ls rs i k a++tF l i k p f) c ls rs out
theorem kR0 (out:List Q9):Z9 Tryz.prog GG [0,1,13,14,15] 49 iR0 (xI l c ls rs out) (.done ():TT Unit) (fun _=>xA l c ls rs 0 out):=by unfold Z9;kernel_rfl
theorem kR1 (i:Int) (out:List Q9):Z9 Tryz.prog GG [0,1,13,14,15,16] 49 iR1 (xA l c ls rs i out) (.done ():TT Unit) (fun _=>xA1 l c ls rs i out):=by unfold Z9;kernel_rfl
def gR2 (i:Int):TT Q3:=.chk 2002 (decide (0≤i)&&decide (i < (ls.length:Int))) (.row 2003 Q0 ls (0+i.toNat) true fun x=>.done x)
theorem kR2 (i:Int) (out:List Q9):Z9 Tryz.prog GG [0,1,4,5,13,14,15] 49 iR2 (xA l c ls rs i out) (gR2 ls i) (fun a=>xB0 l c ls rs i a out):=by unfold Z9;kernel_rfl
theorem kR3 (i:Int) (a:Q3) (out:List Q9):Z9 Tryz.prog GG [0,1,4,5,13,14,15,24,25,26] 49 iR3 (xB l c ls rs i a out) (.done ():TT Unit) (fun _=>xC l c ls rs i 0 a out):=by unfold Z9;kernel_rfl
theorem kR4 (i k:Int) (a:Q3) (out:List Q9):Z9 Tryz.prog GG [0,1,4,5,13,14,15,24,25,26,27] 49 iR4 (xC l c ls rs i k a out) (.done ():TT Unit) (fun _=>xC1 l c ls rs i k a out):=by unfold Z9;kernel_rfl
def gR5 (k:Int):TT Q3:=.chk 5002 (decide (0≤k)&&decide (k < (rs.length:Int))) (.row 5003 Q0 rs (0+k.toNat) true fun x=>.done x)
theorem kR5 (i k:Int) (a:Q3) (out:List Q9):Z9 Tryz.prog GG [0,1,4,5,6,7,13,14,15,24,25,26] 49 iR5 (xC l c ls rs i k a out) (gR5 rs k) (fun b=>xD l c ls rs i k a b out):=by unfold Z9;kernel_rfl
theorem kR6 (i k:Int) (a b:Q3) (out:List Q9):Z9 Tryz.prog GG [0,1,4,5,6,7,8,13,14,15,24,25,26] 49 iR6 (xD l c ls rs i k a b out) (.done ():TT Unit) (fun _=>xE l c ls rs i k 0 a b out):=by unfold Z9;kernel_rfl
noncomputable def gR7 (i k:Int):TT Int:=.view 7003 (s156_1 c ls rs (Q9.mk i k 0 0)) [(VwW.of 1700062 Q0 ls),(VwW.of 1700063 Q0 rs)] fun r=>.done r
theorem kR7 (i k:Int) (a b:Q3) (out:List Q9):Z9 Tryz.prog GG [0,1,4,5,6,7,8,13,14,15,24,25,26] 49 iR7 (xE l c ls rs i k 0 a b out) (gR7 c ls rs i k) (fun p=>xE l c ls rs i k p a b out):=by unfold Z9;kernel_rfl
noncomputable def gR8 (a b:Q3):TT Bool:=.call 8003 (s157 a b) [] [] fun r=>.br 8005 r (.done true) (.done false)
theorem kR8 (i k p:Int) (a b:Q3) (out:List Q9):O6 Tryz.prog GG [0,1,4,5,6,7,8,13,14,15,24,25,26,41,42,43] 49 8 ops8 6 (xE l c ls rs i k p a b out) (gR8 a b) (xF l c ls rs i k p a b out):=by unfold O6;kernel_rfl
theorem kR9 (i k:Int) (a:Q3) (out:List Q9):Z9 Tryz.prog GG [0,1,4,5,13,14,15,24,25,26] 49 iR9 (xC l c ls rs i k a out) (.done ():TT Unit) (fun _=>xC l c ls rs i (Q7 (k+1)) a out):=by unfold Z9;kernel_rfl
theorem kR10 (i:Int) (out:List Q9):Z9 Tryz.prog GG [0,1,13,14,15] 49 iR10 (xA l c ls rs i out) (.done ():TT Unit) (fun _=>xA l c ls rs (Q7 (i+1)) out):=by unfold Z9;kernel_rfl
end
noncomputable def A6 (c:Bool) (ls rs:List Q3) (i:Int) (a:Q3) (s:Int×List Q9):Option ((Int×List Q9)⊕List Q9):=
 bif decide (s.1 < (rs.length:Int)) then
  (match (gR5 rs s.1).run with
  | none=>none
  | some b=>match (gR7 c ls rs i s.1).run with
   | none=>none
   | some p=>match (gR8 a b).run with
    | none=>none
    | some f=>bif f then (match (gRd s.2 ⟨i,s.1,p,0⟩).run with
      | none=>none
      | some _=>some (.inl (Q7 (s.1+1),s.2++[⟨i,s.1,p,0⟩])))
     else some (.inl (Q7 (s.1+1),s.2)))
 else some (.inr s.2)
noncomputable def inM (c:Bool) (ls rs:List Q3) (i:Int) (a:Q3) (out:List Q9):Option (List Q9):=G7 (A6 c ls rs i a) FUEL (0,out)
noncomputable def R3 (c:Bool) (ls rs:List Q3) (s:Int×List Q9):Option ((Int×List Q9)⊕List Q9):=
 bif decide (s.1 < (ls.length:Int)) then
  (match (gR2 ls s.1).run with
  | none=>none
  | some a=>match inM c ls rs s.1 a s.2 with
   | none=>none
   | some out=>some (.inl (Q7 (s.1+1),out)))
 else some (.inr s.2)
noncomputable def pairsM (c:Bool) (ls rs:List Q3):Option (List Q9):=G7 (R3 c ls rs) FUEL (0,[])
noncomputable def paYL:YL:=⟨154,tOf paTs,#[50],paAs,paBd⟩
theorem inner (l:Nat) (c:Bool) (ls rs:List Q3) (i:Int) (a:Q3) (out:List Q9) {r:List Q9} (h:inM c ls rs i a out=some r) {Q:Exit→YS→Prop}
    (hq:∀st,Gst GG st ((xA l c ls rs i r).D 49).st→Q .normal ⟨.normal,st⟩) :
    YT Tryz.prog GG paYL l (.block 2 (.loop cIn)) ⟨.normal,((xC l c ls rs i 0 a out).D 49).st⟩ Q:=by
  refine YT.block ?_
  refine YT.loop (fun m s=>s.x=.normal∧∃y:Int×List Q9,Gst GG s.st ((xC l c ls rs i y.1 a y.2).D 49).st∧G7 (A6 c ls rs i a) m y=some r) (fun m s hI=>?_) (n:=FUEL) ⟨rfl,(0,out),Gst.same _,h⟩
  obtain⟨x,st⟩:=s
  obtain⟨rfl,⟨k,o⟩,g,hit⟩:=hI
  refine YT.gst g ?_
  cases m with
  | zero=>simp[G7] at hit
  | succ m=>
    rw[iter_succ] at hit
    rw[eIn]
    refine YT.seq (YT.piece (kR4 l c ls rs i k a o) Q8 rfl (by rfl) fun s g=>?_)
    show YT _ _ _ _ _ _ _
    refine YT.gst g ?_
    cases hc:decide (k < (rs.length:Int)) with
    | false=>
      have hs0:A6 c ls rs i a (k,o)=some (.inr o):=by unfold A6;simp only[hc];rfl
      rw[hs0] at hit
      obtain rfl:o=r:=Option.some.inj hit
      refine YT.seq (YT.cond (b:=false) (by show some (V.bool (decide (k < (rs.length:Int))))=_;rw[hc]) (YT.exit ?_))
      show Q .normal _
      exact hq _ (X6 (xA l c ls rs i o) (by rfl) rfl ⟨by rfl,by rfl⟩)
    | true=>
      refine YT.seq (YT.cond (b:=true) (by show some (V.bool (decide (k < (rs.length:Int))))=_;rw[hc]) (YT.skip ?_))
      show YT _ _ _ _ _ _ _
      refine YT.gst (st':=((xC l c ls rs i k a o).D 49).st) (X6 (xC l c ls rs i k a o) (by rfl) rfl ⟨by rfl,by rfl⟩) ?_
      cases h5:(gR5 rs k).run with
      | none => have hs0 : A6 c ls rs i a (k, o) = none := by unfold A6; simp only [hc, h5]; rfl
                rw[hs0] at hit;simp at hit
      | some b=>
      cases h7:(gR7 c ls rs i k).run with
      | none => have hs0 : A6 c ls rs i a (k, o) = none := by unfold A6; simp only [hc, h5, h7]; rfl
                rw[hs0] at hit;simp at hit
      | some p=>
      cases h8:(gR8 a b).run with
      | none => have hs0 : A6 c ls rs i a (k, o) = none := by unfold A6; simp only [hc, h5, h7, h8]; rfl
                rw[hs0] at hit;simp at hit
      | some f=>
      have next:∀(o2:List Q9) (st:St),G7 (A6 c ls rs i a) m (Q7 (k+1),o2)=some r→Gst GG st ((xC l c ls rs i k a o2).D 49).st→
          YT Tryz.prog GG paYL l iR9 ⟨.normal,st⟩ (thenY (fun s'=>∃m',m' < m+1∧s'.x=.normal∧∃y:Int×List Q9,Gst GG s'.st ((xC l c ls rs i y.1 a y.2).D 49).st∧G7 (A6 c ls rs i a) m' y=some r) (inBlockY 2 Q)):=fun o2 st h2 g2=>by
        refine YT.gst g2 ?_
        refine YT.piece (kR9 l c ls rs i k a o2) Q8 rfl (by rfl) fun s g=>?_
        exact⟨m,Nat.lt_succ_self m,rfl,(Q7 (k+1),o2),g,h2⟩
      refine YT.seq (YT.block (YT.seq (YT.piece (kR5 l c ls rs i k a o) Q8 h5 (by rfl) fun s g=>?_)))
      show YT _ _ _ _ _ _ _
      refine YT.gst g ?_
      refine YT.seq (YT.piece (kR6 l c ls rs i k a b o) Q8 rfl (by rfl) fun s g=>?_)
      show YT _ _ _ _ _ _ _
      refine YT.gst g ?_
      refine YT.seq (YT.piece (kR7 l c ls rs i k a b o) Q8 h7 (by rfl) fun s g=>?_)
      show YT _ _ _ _ _ _ _
      refine YT.gst g ?_
      refine YT.seq (YT.region ?_)
      show W2 _ _ _ _ _ ([0,1,2,3,4,5]++[6,7,8]) _ _
      refine W2.tv ((kR8 l c ls rs i k p a b o).tv Q8 h8 (by cases f<;>rfl)) fun e st hq'=>⟨by rw[hq'.1];cases f<;>rfl,W2.gst hq'.2 ?_⟩
      refine W2.gst (st':=((xG l c ls rs i k p a o f).D 49).st) (by cases f<;>exact X6 _ (by rfl) rfl ⟨by rfl,by rfl⟩) ?_
      cases f with
      | false=>
        have hs0:A6 c ls rs i a (k,o)=some (.inl (Q7 (k+1),o)):=by unfold A6;simp only[hc,h5,h7,h8];rfl
        rw[hs0] at hit
        refine W2.step rfl (W2.step rfl (W2.step rfl (W2.nil ?_)))
        show YT _ _ _ _ _ _ _
        refine YT.cond (b:=false) rfl (YT.skip ?_)
        show YT _ _ _ _ _ _ _
        exact next o _ hit (X6 (xC l c ls rs i k a o) (by rfl) rfl ⟨by rfl,by rfl⟩)
      | true=>
        cases hd:(gRd o ⟨i,k,p,0⟩).run with
        | none => have hs0 : A6 c ls rs i a (k, o) = none := by unfold A6; simp only [hc, h5, h7, h8, hd]; rfl
                  rw[hs0] at hit;simp at hit
        | some u=>
        have hs0:A6 c ls rs i a (k,o)=some (.inl (Q7 (k+1),o++[⟨i,k,p,0⟩])):=by unfold A6;simp only[hc,h5,h7,h8,hd];rfl
        rw[hs0] at hit
        rw[O5 (x:=xG l c ls rs i k p a o true) (by rfl) 49]
        refine W2.yieldG (hi:=rfl) rfl rfl rfl rfl rfl rfl rfl ?_ ?_ ?_ rfl (roundMake c ls rs o ⟨i,k,p,0⟩ hd) ?_ ?_
        · exact fun i=>tOf_ok (by rfl) i
        · exact fun i=>tOf_ok (by rfl) i
        · intro p hp
          have:p∈[50]:=hp
          simp at this
          subst this
          exact(by decide:50 < 154)
        · exact fun e b' h=>.inl h.1
        · intro e b' h
          obtain⟨rfl,rfl⟩:=h
          refine W2.step rfl (W2.step rfl (W2.nil ?_))
          show YT _ _ _ _ _ _ _
          refine YT.cond (b:=false) rfl (YT.skip ?_)
          show YT _ _ _ _ _ _ _
          exact next _ _ hit (X6 (xC l c ls rs i k a (o++[⟨i,k,p,0⟩])) (by rfl) rfl ⟨by rfl,by rfl⟩)
theorem iterMake (c:Bool) (ls rs:List Q3) {r:List Q9} (h:pairsM c ls rs=some r) :
    IterT Tryz.prog GG cIt 49 paArgs (ofL (paB c ls rs [])) paYL (fun e b=>e=.normal∧b=ofL (paB c ls rs r)):=by
  refine IterT.of fun l=>?_
  have e0:entry 49 (paArgs l) (ofL (paB c ls rs []))=((xI l c ls rs []).D 49).st:=(entry_ext (x:=xI l c ls rs []) (by rfl) (by rfl) 49).symm
  rw[e0,eIt]
  refine YT.seq (YT.piece (kR0 l c ls rs []) Q8 rfl (by rfl) fun s g=>?_)
  show YT _ _ _ _ _ _ _
  refine YT.gst g ?_
  refine YT.block ?_
  refine YT.loop (fun m s=>s.x=.normal∧∃y:Int×List Q9,Gst GG s.st ((xA l c ls rs y.1 y.2).D 49).st∧G7 (R3 c ls rs) m y=some r) (fun m s hI=>?_) (n:=FUEL) ⟨rfl,(0,[]),Gst.same _,h⟩
  obtain⟨x,st⟩:=s
  obtain⟨rfl,⟨i,o⟩,g,hit⟩:=hI
  refine YT.gst g ?_
  cases m with
  | zero=>simp[G7] at hit
  | succ m=>
    rw[iter_succ] at hit
    rw[eOut]
    refine YT.seq (YT.piece (kR1 l c ls rs i o) Q8 rfl (by rfl) fun s g=>?_)
    show YT _ _ _ _ _ _ _
    refine YT.gst g ?_
    cases hc:decide (i < (ls.length:Int)) with
    | false=>
      have hs0:R3 c ls rs (i,o)=some (.inr o):=by unfold R3;simp only[hc];rfl
      rw[hs0] at hit
      obtain rfl:o=r:=Option.some.inj hit
      refine YT.seq (YT.cond (b:=false) (by show some (V.bool (decide (i < (ls.length:Int))))=_;rw[hc]) (YT.exit ?_))
      refine⟨.inl rfl,49,tOf (xA1 l c ls rs i o).ts,ofL (paB c ls rs o),?_,rfl,rfl⟩
      show Gst GG ((xA1 l c ls rs i o).D 49).st _
      rw[O5 (by rfl) 49]
      exact Gst.same _
    | true=>
      refine YT.seq (YT.cond (b:=true) (by show some (V.bool (decide (i < (ls.length:Int))))=_;rw[hc]) (YT.skip ?_))
      show YT _ _ _ _ _ _ _
      refine YT.gst (st':=((xA l c ls rs i o).D 49).st) (X6 (xA l c ls rs i o) (by rfl) rfl ⟨by rfl,by rfl⟩) ?_
      cases h2:(gR2 ls i).run with
      | none => have hs0 : R3 c ls rs (i, o) = none := by unfold R3; simp only [hc, h2]; rfl
                rw[hs0] at hit;simp at hit
      | some a=>
      cases h3:inM c ls rs i a o with
      | none => have hs0 : R3 c ls rs (i, o) = none := by unfold R3; simp only [hc, h2, h3]; rfl
                rw[hs0] at hit;simp at hit
      | some o2=>
      have hs0:R3 c ls rs (i,o)=some (.inl (Q7 (i+1),o2)):=by unfold R3;simp only[hc,h2,h3];rfl
      rw[hs0] at hit
      refine YT.seq (YT.block (YT.seq (YT.piece (kR2 l c ls rs i o) Q8 h2 (by rfl) fun s g=>?_)))
      show YT _ _ _ _ _ _ _
      refine YT.gst g ?_
      refine YT.gst (Gst.snapT (t:=5) (b:=5) (k:=⟨8,true,[caC a]⟩) (row:=caC a) rfl rfl rfl (by show 8 < K7;decide) (by simp[caC,U8])) ?_
      refine YT.gst (st':=((xB l c ls rs i a o).D 49).st) (X6 (xB l c ls rs i a o) (by rfl) rfl ⟨by rfl,by rfl⟩) ?_
      refine YT.seq (YT.piece (kR3 l c ls rs i a o) Q8 rfl (by rfl) fun s g=>?_)
      show YT _ _ _ _ _ _ _
      refine YT.gst g ?_
      refine inner l c ls rs i a o h3 fun st g=>?_
      show YT _ _ _ _ _ _ _
      refine YT.gst g ?_
      refine YT.piece (kR10 l c ls rs i o2) Q8 rfl (by rfl) fun s g=>?_
      exact⟨m,Nat.lt_succ_self m,rfl,(Q7 (i+1),o2),g,hit⟩
def paFTs:List (Nat×V):=[(6,.ptr 6 0 0),(7,.int .i64 0),(8,.ptr 700061 0 0),(9,.ptr 9 0 0)]
def paFL (c:Bool) (ls rs:List Q3) (out:List Q9):List (Nat×Blk):=
 [(6,⟨4,true,[[.bool false,.nilsl,.nilsl,.nilsl]]⟩),(9,⟨1,true,[[.ref 900070 0 out.length]]⟩),(700061,⟨4,true,[[.bool c,.ref 700062 0 ls.length,.ref 700063 0 rs.length,.nilsl]]⟩)]
def paFT (ls rs:List Q3) (out:List Q9):List BT:=[BT.of 900070 Q2 4 out true,BT.of 700062 Q0 8 ls true,BT.of 700063 Q0 8 rs true]
def xPa (c:Bool) (ls rs:List Q3) (out:List Q9):Ext:=Ext.of .normal (paFTs++[(49,.fn 78 [.ptr 700061 0 0] [])]) (paFL c ls rs out) (paFT ls rs out) (by rfl)
def ePa (c:Bool) (ls rs:List Q3) (out:List Q9):Ext:=Ext.of .normal paFTs (paFL c ls rs out) (paFT ls rs out) (by rfl)
theorem bsMake (c:Bool) (ls rs:List Q3) (out:List Q9):shB (ofL (xPa c ls rs out).bs)=ofL (paB c ls rs out):=by
 rw[shB_ofL]
 have:((xPa c ls rs out).bs.map fun p=>(sh p.1,p.2.ren sh))=paB c ls rs out:=by
  simp only[xPa,Ext.of,paFL,paFT,List.cons_append,List.nil_append,List.map_cons,List.map_nil,BT.of,Blk.ren,sh_rows]
  kernel_rfl
 rw[this]
theorem loopMake (c:Bool) (ls rs:List Q3) {r:List Q9} (h:pairsM c ls rs=some r) :
  TV Tryz.prog GG (.rangeFunc (.tmp 49) #[50] paAs paBd) ((xPa c ls rs []).D 154).st (fun e st=>e=.normal∧Gst GG st ((ePa c ls rs r).D 154).st):=by
 have ht:(fun i=>W7 sh (((xPa c ls rs []).D 154).st.t i))=tOf paTs:=by
  have:((xPa c ls rs []).D 154).st.t=tOf (xPa c ls rs []).ts:=rfl
  rw[this,tOf_shift]
  have:((xPa c ls rs []).ts.map fun p=>(p.1,W7 sh p.2))=paTs:=by kernel_rfl
  rw[this]
 have hb:Tryz.f78.body=some cIt:=by kernel_rfl
 refine TV.rangeF (f:=78) (fi:=Tryz.f78) (c:=cIt) (first:=[.ptr 1700061 0 0]) (caps:=[]) (R:=fun e b=>e=.normal∧b=ofL (paB c ls rs r)) ?_ Tryz.func78 hb (by kernel_rfl) (by kernel_rfl) ?_ (fun i=>?_) ?_ ?_
 ·show some ((fun i=>W7 sh (((xPa c ls rs []).D 154).st.t i)) 49)=_
  rw[ht];rfl
 ·intro b k hk
  obtain⟨q,h1,rfl,_⟩:=find_b (show ofL (xPa c ls rs []).bs b=some k from hk)
  show (((xPa c ls rs []).us).contains q.1 || uTop q.1)=true
  simp only[Ext.us,Bool.or_eq_true,List.contains_eq_mem,decide_eq_true_eq]
  exact .inl (List.mem_map.2 ⟨q,h1,rfl⟩)
 ·have:=congrFun ht i
  rw[show W7 sh (((xPa c ls rs []).D 154).st.t i)=tOf paTs i from this]
  exact tOf_ok (by rfl) i
 ·have hbb:shB ((xPa c ls rs []).D 154).st.b=ofL (paB c ls rs []):=bsMake c ls rs []
  rw[ht,hbb]
  have e:max Tryz.f78.ntmps ([V.ptr 1700061 0 0].length+1+([]:List V).length)=49:=by kernel_rfl
  rw[e]
  exact iterMake c ls rs h
 ·intro e b' ho
  obtain⟨rfl,rfl⟩:=ho
  refine⟨.inl rfl,ofL (xPa c ls rs r).bs,(bsMake c ls rs r).symm,?_,rfl,?_⟩
  ·show (F3 154 (xPa c ls rs []).ts (xPa c ls rs r).bs (xPa c ls rs []).us).known
   refine⟨fun i b hm=>?_,fun i k hk=>?_⟩
   ·have hm':b∈U2 (tOf (xPa c ls rs []).ts i):=hm
    unfold tOf at hm'
    cases hf:(xPa c ls rs []).ts.find? (fun p=>p.1==i) with
    | none=>rw[hf] at hm';simp[U2] at hm'
    | some p=>
     rw[hf] at hm'
     have all:((xPa c ls rs []).ts.all fun p=>(U2 p.2).all fun b=>(xPa c ls rs []).us.contains b)=true:=by rfl
     have:=List.all_eq_true.1 (List.all_eq_true.1 all p (List.mem_of_find?_eq_some hf)) b hm'
     show ((xPa c ls rs []).us.contains b || uTop b)=true
     rw[this];rfl
   ·obtain⟨q,h1,rfl,rfl⟩:=find_b (show ofL (xPa c ls rs r).bs i=some k from hk)
    have husl:(xPa c ls rs r).us=(xPa c ls rs []).us:=rfl
    refine⟨?_,fun b hm=>?_⟩
    ·show ((xPa c ls rs []).us.contains q.1 || uTop q.1)=true
     rw[←husl]
     simp only[Ext.us,Bool.or_eq_true,List.contains_eq_mem,decide_eq_true_eq]
     exact .inl (List.mem_map.2 ⟨q,h1,rfl⟩)
    ·have:q∈paFL c ls rs r++(paFT ls rs r).map fun x=>(x.id,x.k):=h1
     rcases List.mem_append.1 this with h2|h2
     ·have all:((paFL c ls rs r).all fun q=>(H9 q.2.rows.flatten).all fun b=>(xPa c ls rs []).us.contains b)=true:=by rfl
      have:=List.all_eq_true.1 (List.all_eq_true.1 all q h2) b hm
      show ((xPa c ls rs []).us.contains b || uTop b)=true
      rw[this];rfl
     ·have hdat:=bts_dat _ h2
      rw[hdat.refs] at hm;simp at hm
  ·show Gst GG (F3 154 (xPa c ls rs []).ts (xPa c ls rs r).bs (xPa c ls rs []).us) _
   exact X6 (ePa c ls rs r) (by rfl) rfl ⟨by rfl,by rfl⟩
noncomputable def subPairs (c:Bool) (ls rs:List Q3):Sub Tryz.prog GG (List Q9):=
 ⟨.rangeFunc (.tmp 49) #[50] paAs paBd,154,xPa c ls rs [],pairsM c ls rs,ePa c ls rs,fun _ h=>loopMake c ls rs h⟩
end Go.Proofs.YtjpahkpfkohfkaaGreatDoor
namespace Go.Proofs.YtjpahkpfkohfkaaGreatDoor
open Go Go.EV
set_option maxRecDepth 100000
noncomputable def cMk:Code:=cB (cR (Tryz.f33.body.getD .skip))
def cWt:Code→Code
 | .seq _ (.seq _ (.seq _ (.seq _ (.seq _ (.seq _ (.seq _ (.seq _ (.seq _ (.seq _ (.seq _ (.seq c _)))))))))))=>c
 | _=>.skip
noncomputable def wCode:Code:=cWt cMk
noncomputable def wOps29:Array Oper:=rOps (cL wCode)
noncomputable def wLoop:Code:=cB (cB (cR wCode))
noncomputable def wOps30:Array Oper:=rOps (cL wLoop)
noncomputable def wBody:Code:=cB (cR (cR wLoop))
noncomputable def wOps31:Array Oper:=rOps (cL wBody)
noncomputable def wOps32:Array Oper:=rOps (cR wBody)
theorem eWt:wCode=.seq (.region 29 wOps29 false) (.block 6 (.loop (.seq (.region 30 wOps30 false) (.seq (.cond (.tmp 139) .skip (.exit 6)) (.block 7 (.seq (.region 31 wOps31 false) (.region 32 wOps32 false))))))):=by kernel_rfl
def wTs:List (Nat×V):=[(6,.ptr 6 0 0),(7,.int .i64 0),(8,.ptr 700061 0 0)]
def wL (c:Bool) (ls rs:List Q3) (m:Nat):List (Nat×Blk):=[(6,⟨4,true,[[.bool false,.nilsl,.nilsl,.nilsl]]⟩),(700061,⟨4,true,[[.bool c,.ref 700062 0 ls.length,.ref 700063 0 rs.length,.ref 700064 0 m]]⟩)]
def wT (ls rs:List Q3) (s:List Q9):List BT:=[BT.of 700062 Q0 8 ls true,BT.of 700063 Q0 8 rs true,BT.of 700064 Q2 4 s true]
section
variable (c:Bool) (ls rs:List Q3) (m:Nat)
def eW (s:List Q9):Ext:=Ext.of .normal wTs (wL c ls rs m) (wT ls rs s) (by rfl)
def xW (l:List R6) (s:List Q9):Ext:=Ext.of .normal (wTs++[(14,.mp 700065)]) (wL c ls rs m) (wT ls rs s++[BT.of 700065 C3 1114370 l true]) (by rfl)
def xWi (i:Int) (s:List Q9):Ext:=Ext.of .normal (wTs++[(21,.i i)]) (wL c ls rs m) (wT ls rs s) (by rfl)
def gW (i:Int) (s:List Q9):TT (List Q9):=
 .chk 32007 (decide (0≤i)&&decide (i < (m:Int))) (.row 32009 Q2 s (0+i.toNat) true fun x=>
  .re 32009 (ReW.put 700064 4 Q2 s (0+i.toNat) (Q9.mk x.fLocal x.fRemote x.fPriority 1)) (.done (s.set (0+i.toNat) (Q9.mk x.fLocal x.fRemote x.fPriority 1))))
theorem kW (i:Int) (s:List Q9):O6 Tryz.prog GG [6,7,8] 154 32 wOps32 9 (xWi c ls rs m i s) (gW m i s) (fun s'=>eW c ls rs m s'):=by unfold O6;kernel_rfl
end
def wSet (m:Nat) (i:Int) (s:List Q9):Option (List Q9):=
 bif decide (0≤i)&&decide (i < (m:Int)) then (match s[i.toNat]? with|some x=>some (s.set i.toNat (Q9.mk x.fLocal x.fRemote x.fPriority 1))|none=>none) else none
theorem gW_run (m:Nat) (i:Int) (s:List Q9):(gW m i s).run=wSet m i s:=by
 unfold gW wSet
 simp only[T.run,Nat.zero_add,cond_true]
 cases (decide (0≤i)&&decide (i < (m:Int))) with
 | false=>rfl
 | true=>simp only[cond_true];cases s[i.toNat]?<;>rfl
theorem wSet_comm (m:Nat) (i j:Int) (s:List Q9):(wSet m i s).bind (wSet m j)=(wSet m j s).bind (wSet m i):=by
 unfold wSet
 cases hi:(decide (0≤i)&&decide (i < (m:Int)))<;>cases hj:(decide (0≤j)&&decide (j < (m:Int)))
 ·rfl
 ·simp only[cond_true,cond_false]
  cases s[j.toNat]?<;>rfl
 ·simp only[cond_true,cond_false]
  cases s[i.toNat]?<;>rfl
 ·simp only[cond_true]
  by_cases e:i.toNat=j.toNat
  ·rw[e]
  ·cases h1:s[i.toNat]? with
   | none=>
    cases h2:s[j.toNat]? with
    | none=>rfl
    | some y=>simp only[Option.bind_none,Option.bind_some,List.getElem?_set_ne (Ne.symm e),h1]
   | some x=>
    cases h2:s[j.toNat]? with
    | none=>simp only[Option.bind_none,Option.bind_some,List.getElem?_set_ne e,h2]
    | some y=>simp only[Option.bind_some,List.getElem?_set_ne e,List.getElem?_set_ne (Ne.symm e),h1,h2,Option.some.injEq];exact List.set_comm _ _ e
def wAll (m:Nat) (l:List R6) (s:List Q9):Option (List Q9):=V8 (fun x s=>wSet m x.fv s) l s
theorem loopWait (c:Bool) (ls rs:List Q3) (m:Nat) (l:List R6) (s0:List Q9) {r:List Q9} (h:wAll m l s0=some r) :
  TV Tryz.prog GG wCode ((xW c ls rs m l s0).D 154).st (fun e st=>e=.normal∧Gst GG st ((eW c ls rs m r).D 154).st):=by
 rw[eWt]
 have key:=TV.rangeMap (P:=Tryz.prog) (G:=GG) (ty:=C3) (z:=1114370) (b:=700065) (mt:=162) (kt:=163) (et:=3) (n:=154) (ex:=true) (l:=l) (kd:=.i64) (fv:=fun x=>x.fv) (i29:=29) (i30:=30) (i31:=31) (i32:=32) (B:=6) (B2:=7) (ops29:=wOps29) (ops30:=wOps30) (ops31:=wOps31) (ops32:=wOps32)
  (tm:=14) (t0:=136) (it:=137) (tn:=138) (tb:=139) (te:=140) (tw:=141) (tv:=21) (st:=((xW c ls rs m l s0).D 154).st) (S:=fun s=>((eW c ls rs m s).D 154).st) (body:=fun x s=>wSet m x.fv s) (s0:=s0) (r:=r)
  (by kernel_rfl) (by kernel_rfl) (by kernel_rfl) (by kernel_rfl) (by decide) (by decide) (by kernel_rfl) ⟨by decide,by decide⟩ (by decide) rfl rfl rfl (fun x=>rfl) (fun s=>⟨rfl,rfl,rfl,rfl,rfl,rfl,rfl⟩)
  (X6 (eW c ls rs m s0) (by rfl) rfl ⟨by rfl,by rfl⟩) (fun x s s' hs=>?_) (fun x y s=>wSet_comm m x.fv y.fv s) h
 ·exact key.mono fun e st hq=>⟨hq.1,by rw[hq.2];exact Gst.same _⟩
 ·have e:((eW c ls rs m s).D 154).st.setT 21 (.int .i64 x.fv)=((xWi c ls rs m x.fv s).D 154).st:=by
   refine St.ext' rfl fun l=>?_
   cases l with
   | b j=>exact⟨rfl,rfl⟩
   | t j=>
    show (if j=21 then V.int .i64 x.fv else tOf wTs j)=tOf (wTs++[(21,.int .i64 x.fv)]) j
    unfold tOf
    by_cases hj:j=21
    ·subst hj;rfl
    ·rw[if_neg hj,List.find?_append]
     cases wTs.find? (fun p=>p.1==j) with
     | some p=>rfl
     | none=>
      have:((21:Nat)==j)=false:=by simpa using fun e=>hj e.symm
      simp[this]
  have:=(kW c ls rs m x.fv s).tv Q8 (r:=s') (by rw[gW_run];exact hs) (by rfl)
  rw[←e] at this
  exact this
noncomputable def subWait (c:Bool) (ls rs:List Q3) (m:Nat) (l:List R6) (s:List Q9):Sub Tryz.prog GG (List Q9):=
 ⟨wCode,154,xW c ls rs m l s,wAll m l s,eW c ls rs m,fun _ h=>loopWait c ls rs m l s h⟩
end Go.Proofs.YtjpahkpfkohfkaaGreatDoor
namespace Go.Proofs.YtjpahkpfkohfkaaGreatDoor
open Go Go.EV
set_option maxRecDepth 100000
structure SEnt236 where
 fk:V4
 fv:Bool
def O8:Ty SEnt236:=⟨fun x=>[.str x.fk.a0,.str x.fk.a1,.bool x.fv],fun x=>[.str x.fk.a0,.str x.fk.a1,.bool x.fv],fun _=>rfl,fun _=>rfl,fun _ _=>rfl,fun _=>rfl⟩
noncomputable def g77 (p0:List Q3):TT Unit:=.app 3003 Q0 [] p0 88 true (by intros;rfl) (.done ())
theorem k77y:Z9 Tryz.prog GG [2] 8 (A4 Tryz.f77.body) (Ext.lit .normal [(2,.nilsl)] []) (.done ():TT Unit) (fun _=>Ext.lit .ret [(2,.nilsl)] []):=by unfold Z9;kernel_rfl
theorem k77r (p0:List Q3):Z9 Tryz.prog GG [0,2,5,6,7] 8 (D1 Tryz.f77.body) (Ext.lit .normal [(0,.sl false 8 (List.map Q0.c p0)),(2,.nilsl)] []) (g77 p0) (fun _=>Ext.of .ret [(2,.ref 7 0 ([]++p0).length)] [] [BT.of 7 Q0 8 ([]++p0)] (by rfl)):=by unfold Z9;kernel_rfl
theorem k77 (p0:(List Q3)) {r:Unit} (h:(g77 p0).run=some r):CallC Tryz.prog GG 77 [.sl false 8 (List.map Q0.c p0)] (ofL []) (.ref 7 0 p0.length) (ofL [(7,⟨8,true,List.map Q0.c p0⟩)]):=
 clone_ok (ty:=Q0) (ops0:=T3 Tryz.f77.body) (ops1:=T2 Tryz.f77.body) (yes:=A4 Tryz.f77.body) (rest:=D1 Tryz.f77.body) (t:=27) Q8 (by decide) Tryz.func77 (by kernel_rfl) (by kernel_rfl) (by kernel_rfl) (by kernel_rfl) (by kernel_rfl) (by kernel_rfl) (by kernel_rfl) (by kernel_rfl) (by kernel_rfl) k77y (k77r p0) (by rfl) h
noncomputable def s77 (p0:List Q3):EV.Spec Tryz.prog GG Unit:=⟨77,[.sl false 8 (List.map Q0.c p0)],[],(g77 p0).run,fun _=>.ref 7 0 p0.length,fun _=>[(7,⟨8,true,List.map Q0.c p0⟩)],[7],fun _ p hp _=>by
 rw[List.mem_singleton.1 hp];exact Q0.data _,fun _ h=>k77 p0 h⟩
noncomputable def s83 (p0:M4) (p1:Q9):EV.Spec Tryz.prog GG (V4):=.ofFn 83 Q8 Tryz.func83 (show FnD Tryz.prog GG [0,1,3,4] Tryz.f83 [.snap [.bool p0.fList.fControlling,.sl false 8 (List.map Q0.c p0.fList.fLocals),.sl false 8 (List.map Q0.c p0.fList.fRemotes),.sl false 4 (List.map Q2.c p0.fList.fPairs)],.agg (Q2.c p1)] (
 .row 1008 Q0 p0.fList.fLocals p1.fLocal.toNat (decide (0≤p1.fLocal)) fun x370=>
 .row 1018 Q0 p0.fList.fRemotes p1.fRemote.toNat (decide (0≤p1.fRemote)) fun x371=>
 .done (V4.mk x370.fFoundation x371.fFoundation):TT (V4)) (fun r=>.agg [.str r.a0,.str r.a1]) by unfold FnD;kernel_rfl)
noncomputable def s84 (p0:M4) (p1:Q9):EV.Spec Tryz.prog GG (Int):=.ofFn 84 Q8 Tryz.func84 (show FnD Tryz.prog GG [0,1,3,4] Tryz.f84 [.snap [.bool p0.fList.fControlling,.sl false 8 (List.map Q0.c p0.fList.fLocals),.sl false 8 (List.map Q0.c p0.fList.fRemotes),.sl false 4 (List.map Q2.c p0.fList.fPairs)],.agg (Q2.c p1)] (
 .row 1008 Q0 p0.fList.fLocals p1.fLocal.toNat (decide (0≤p1.fLocal)) fun x373=>
 .done x373.fComponent:TT (Int)) (fun r=>.int .i64 r) by unfold FnD;kernel_rfl)
noncomputable def s33 (p0 p1:List Q3) (p2:Bool):EV.Spec Tryz.prog GG (Y8×Int):=.ofFn 33 Q8 Tryz.func33 (show FnD Tryz.prog GG [0,1,2,6,7,8,9,10,11,13,14,15,16,17,18,19,21,29,38,49,50,58,59,60,61,70,75,98,99,100,101,131,139] Tryz.f33 [.sl false 8 (List.map Q0.c p0),.sl false 8 (List.map Q0.c p1),.bool p2] (
 .cnd 1 [29]
 (.br 1005 (decide ((12:Int) < (Y5 Q0 p0)))
  (.done true)
  (.done (decide ((12:Int) < (Y5 Q0 p1)))))
 (fun(c341:Bool)=>[.bool c341]) fun c341=>
 .br 0 c341
 (.done ((Y8.mk false [] [] []),3))
 (.cnd 3 [38]
  (.call 3002 (s76 p0) [] [] fun r342=>
   .br 3005 (!r342)
   (.done true)
   (.call 3006 (s76 p1) [] [] fun r343=>
    .done (!r343)))
  (fun(c344:Bool)=>[.bool c344]) fun c344=>
  .br 0 c344
  (.done ((Y8.mk false [] [] []),90))
  (.call 5003 (s77 p0) [] [(7,500042)] fun r345=>
   .call 5005 (s77 p1) [] [(7,500043)] fun r346=>
   .gh 1 (.ren 47 700061) (.gh 1 (.ren 500042 700062) (.gh 1 (.ren 500043 700063) (.gh 1 (.virtC 900070 9 0 4) (.sub (subPairs p2 p0 p1) fun r347=>
   .call 10002 (s79 r347.length r347) [(1000000,900070)] [] fun r358=>
   .opr 11001 (Rule.makeMap 158 57 1114373 (by decide)) fun _=>
   .gh 1 (.virtC 600045 700061 3 4) (.bind 0
   (.lp (fun(l363:(List C0)×(List Q9)×Int)=>Ext.of .normal [(6,.ptr 6 0 0),(7,.i 0),(8,.ptr 700061 0 0),(11,.mp 57),(58,.ref 900070 0 r347.length),(59,.i (r347.length:Int)),(60,.i l363.2.2)] [(6,⟨4,true,[[.bool false,.nilsl,.nilsl,.nilsl]]⟩),(700061,⟨4,true,[[.bool p2,.ref 700062 0 p0.length,.ref 700063 0 p1.length,.ref 600045 0 l363.2.1.length]]⟩)] [BT.of 57 C4 1114373 l363.1 true,BT.of 600045 Q2 4 l363.2.1 true,BT.of 700062 Q0 8 p0 true,BT.of 700063 Q0 8 p1 true,BT.of 900070 Q2 4 r358 true] (by rfl))
    (fun l363=>
     .br 0 (decide (l363.2.2 < (r347.length:Int)))
     (.chk 14001 (decide (0≤l363.2.2)&&decide (l363.2.2 < (r347.length:Int))) (.row 14002 Q2 r358 (0+l363.2.2.toNat) true fun x364=>
      .br 0 ((l363.2.1.length:Int)==36)
      (.done (.inr l363.2.1))
      (.view 16004 (s82 (M4.mk (Y8.mk p2 p0 p1 l363.2.1)) x364) [(VwW.of 700062 Q0 p0),(VwW.of 700063 Q0 p1),(VwW.of 600045 Q2 l363.2.1)] fun r365=>
       .opr 16005 (Rule.look (mt:=158) (kt:=160) (et:=4) (z:=1114373) (ty:=C4) (p:=(fun x=>((decide (r365.fbase.fHost=x.fk.fbase.fHost))&&((r365.fbase.fPort==x.fk.fbase.fPort)&&((decide (r365.faddr.fHost=x.fk.faddr.fHost))&&((r365.faddr.fPort==x.fk.faddr.fPort)&&((r365.fcomponent==x.fk.fcomponent)&&true))))))) (kc:=[.str r365.fbase.fHost,.int .i64 r365.fbase.fPort,.str r365.faddr.fHost,.int .i64 r365.faddr.fPort,.int .i64 r365.fcomponent]) (.tmp 71) (.tmp 74) 75 57 true l363.1 (.bool false) (.bool (O2 l363.1 (fun x=>((decide (r365.fbase.fHost=x.fk.fbase.fHost))&&((r365.fbase.fPort==x.fk.fbase.fPort)&&((decide (r365.faddr.fHost=x.fk.faddr.fHost))&&((r365.faddr.fPort==x.fk.faddr.fPort)&&((r365.fcomponent==x.fk.fcomponent)&&true)))))) (fun x=>x.fv) false)) ⟨by kernel_rfl,by kernel_rfl,by kernel_rfl,fun _=>by kernel_rfl⟩ (by kernel_rfl) (T0 _ _ (fun x:C0=>x.fv) false V.bool)) fun _=>
       .br 0 (O2 l363.1 (fun x=>((decide (r365.fbase.fHost=x.fk.fbase.fHost))&&((r365.fbase.fPort==x.fk.fbase.fPort)&&((decide (r365.faddr.fHost=x.fk.faddr.fHost))&&((r365.faddr.fPort==x.fk.faddr.fPort)&&((r365.fcomponent==x.fk.fcomponent)&&true)))))) (fun x=>x.fv) false)
       (.done (.inl (l363.1,l363.2.1,(Q7 (l363.2.2+1)))))
       (.view 17004 (s82 (M4.mk (Y8.mk p2 p0 p1 l363.2.1)) x364) [(VwW.of 700062 Q0 p0),(VwW.of 700063 Q0 p1),(VwW.of 600045 Q2 l363.2.1)] fun r366=>
        .opr 17005 (Rule.put (mt:=158) (kt:=160) (et:=4) (z:=1114373) (ty:=C4) (p:=(fun x=>((decide (r366.fbase.fHost=x.fk.fbase.fHost))&&((r366.fbase.fPort==x.fk.fbase.fPort)&&((decide (r366.faddr.fHost=x.fk.faddr.fHost))&&((r366.faddr.fPort==x.fk.faddr.fPort)&&((r366.fcomponent==x.fk.fcomponent)&&true))))))) (kc:=[.str r366.fbase.fHost,.int .i64 r366.fbase.fPort,.str r366.faddr.fHost,.int .i64 r366.faddr.fPort,.int .i64 r366.fcomponent]) (.tmp 76) (.tmp 79) (.const (.bool true)) 57 l363.1 (C0.mk r366 true) [.bool true] ⟨by kernel_rfl,by kernel_rfl,by kernel_rfl,fun _=>by kernel_rfl⟩ (by rfl) (by kernel_rfl) (by kernel_rfl) (by decide) (by decide)) fun _=>
        .app 18009 Q2 l363.2.1 [x364] 32 false (by intro h;cases h) (.gh 0 (.drop [600045]) (.gh 0 (.ren 88 600045) (.done (.inl ((mput l363.1 (fun x=>((decide (r366.fbase.fHost=x.fk.fbase.fHost))&&((r366.fbase.fPort==x.fk.fbase.fPort)&&((decide (r366.faddr.fHost=x.fk.faddr.fHost))&&((r366.faddr.fPort==x.fk.faddr.fPort)&&((r366.fcomponent==x.fk.fcomponent)&&true)))))) (C0.mk r366 true)),(l363.2.1++[x364]),(Q7 (l363.2.2+1)))))))))))
     (.done (.inr l363.2.1)))
    ([],[],0))
   (fun(e367:(List Q9))=>Ext.of (.exit 2) [(6,.ptr 6 0 0),(7,.i 0),(8,.ptr 700061 0 0)] [(6,⟨4,true,[[.bool false,.nilsl,.nilsl,.nilsl]]⟩),(700061,⟨4,true,[[.bool p2,.ref 700062 0 p0.length,.ref 700063 0 p1.length,.ref 600045 0 e367.length]]⟩)] [BT.of 600045 Q2 4 e367 true,BT.of 700062 Q0 8 p0 true,BT.of 700063 Q0 8 p1 true] (by rfl))
   (fun e367=>
    .opr 20001 (Rule.makeMap 162 93 1114370 (by decide)) fun _=>
    .bind 1
    (.lp (fun(l375:(List R6)×Int)=>Ext.of .normal [(6,.ptr 6 0 0),(7,.i 0),(8,.ptr 700061 0 0),(14,.mp 93),(98,.ref 600045 0 e367.length),(99,.i (e367.length:Int)),(100,.i l375.2)] [(6,⟨4,true,[[.bool false,.nilsl,.nilsl,.nilsl]]⟩),(700061,⟨4,true,[[.bool p2,.ref 700062 0 p0.length,.ref 700063 0 p1.length,.ref 600045 0 e367.length]]⟩)] [BT.of 93 C3 1114370 l375.1 true,BT.of 600045 Q2 4 e367 true,BT.of 700062 Q0 8 p0 true,BT.of 700063 Q0 8 p1 true] (by rfl))
     (fun l375=>
      .br 0 (decide (l375.2 < (e367.length:Int)))
      (.chk 23002 (decide (0≤l375.2)&&decide (l375.2 < (e367.length:Int))) (.row 23003 Q2 e367 (0+l375.2.toNat) true fun x376=>
       .view 24003 (s83 (M4.mk (Y8.mk p2 p0 p1 e367)) x376) [(VwW.of 700062 Q0 p0),(VwW.of 700063 Q0 p1),(VwW.of 600045 Q2 e367)] fun r377=>
       .opr 25003 (Rule.look2 (mt:=162) (kt:=163) (et:=3) (z:=1114370) (ty:=C3) (p:=(fun x=>((decide (r377.a0=x.fk.a0))&&((decide (r377.a1=x.fk.a1))&&true)))) (kc:=[.str r377.a0,.str r377.a1]) (.tmp 109) (.tmp 110) 111 93 true l375.1 (.int .i64 0) (.int .i64 (O2 l375.1 (fun x=>((decide (r377.a0=x.fk.a0))&&((decide (r377.a1=x.fk.a1))&&true))) (fun x=>x.fv) 0)) ⟨by kernel_rfl,by kernel_rfl,by kernel_rfl,fun _=>by kernel_rfl⟩ (by kernel_rfl) (T0 _ _ (fun x:R6=>x.fv) 0 (V.int .i64))) fun _=>
       .cnd 26 [131]
       (.br 26004 (!(l375.1.findIdx? (fun x=>((decide (r377.a0=x.fk.a0))&&((decide (r377.a1=x.fk.a1))&&true)))).isSome)
        (.done true)
        (.view 26006 (s84 (M4.mk (Y8.mk p2 p0 p1 e367)) x376) [(VwW.of 700062 Q0 p0),(VwW.of 700063 Q0 p1),(VwW.of 600045 Q2 e367)] fun r378=>
         .chk 26014 (decide (0≤(O2 l375.1 (fun x=>((decide (r377.a0=x.fk.a0))&&((decide (r377.a1=x.fk.a1))&&true))) (fun x=>x.fv) 0))&&decide ((O2 l375.1 (fun x=>((decide (r377.a0=x.fk.a0))&&((decide (r377.a1=x.fk.a1))&&true))) (fun x=>x.fv) 0) < (e367.length:Int))) (.row 26015 Q2 e367 (0+(O2 l375.1 (fun x=>((decide (r377.a0=x.fk.a0))&&((decide (r377.a1=x.fk.a1))&&true))) (fun x=>x.fv) 0).toNat) true fun x379=>
         .view 26016 (s84 (M4.mk (Y8.mk p2 p0 p1 e367)) x379) [(VwW.of 700062 Q0 p0),(VwW.of 700063 Q0 p1),(VwW.of 600045 Q2 e367)] fun r380=>
         .done (decide (r378 < r380)))))
       (fun(c381:Bool)=>[.bool c381]) fun c381=>
       .br 0 c381
       (.opr 27004 (Rule.put (mt:=162) (kt:=163) (et:=3) (z:=1114370) (ty:=C3) (p:=(fun x=>((decide (r377.a0=x.fk.a0))&&((decide (r377.a1=x.fk.a1))&&true)))) (kc:=[.str r377.a0,.str r377.a1]) (.tmp 132) (.tmp 133) (.tmp 134) 93 l375.1 (R6.mk r377 l375.2) [.int .i64 l375.2] ⟨by kernel_rfl,by kernel_rfl,by kernel_rfl,fun _=>by kernel_rfl⟩ (by rfl) (by kernel_rfl) (by kernel_rfl) (by decide) (by decide)) fun _=>
        .done (.inl ((mput l375.1 (fun x=>((decide (r377.a0=x.fk.a0))&&((decide (r377.a1=x.fk.a1))&&true))) (R6.mk r377 l375.2)),(Q7 (l375.2+1)))))
       (.done (.inl (l375.1,(Q7 (l375.2+1)))))))
      (.done (.inr l375.1)))
     ([],0))
    (fun(e382:(List R6))=>Ext.of (.exit 4) [(6,.ptr 6 0 0),(7,.i 0),(8,.ptr 700061 0 0),(14,.mp 93)] [(6,⟨4,true,[[.bool false,.nilsl,.nilsl,.nilsl]]⟩),(700061,⟨4,true,[[.bool p2,.ref 700062 0 p0.length,.ref 700063 0 p1.length,.ref 600045 0 e367.length]]⟩)] [BT.of 93 C3 1114370 e382 true,BT.of 600045 Q2 4 e367 true,BT.of 700062 Q0 8 p0 true,BT.of 700063 Q0 8 p1 true] (by rfl))
    (fun e382=>
     .gh 1 (.ren 600045 700064) (.gh 1 (.ren 93 700065) (.sub (subWait p2 p0 p1 e367.length e382 e367) fun r383=>
     .gh 0 (.share (VwW.of 700062 Q0 p0) 1) (.gh 0 (.share (VwW.of 700063 Q0 p1) 1) (.gh 0 (.share (VwW.part 700064 Q2 r383 e367.length) 1) (.done ((Y8.mk p2 p0 p1 (r383.take e367.length)),0))))))))))))))):TT (Y8×Int)) (fun r=>.tup [.agg [.bool r.1.fControlling,.sl false 8 (List.map Q0.c r.1.fLocals),.sl false 8 (List.map Q0.c r.1.fRemotes),.sl false 4 (List.map Q2.c r.1.fPairs)],.int .i64 r.2]) by unfold FnD;kernel_rfl)
noncomputable def g89 (p0:List Q9):TT Unit:=.app 3003 Q2 [] p0 32 true (by intros;rfl) (.done ())
theorem k89y:Z9 Tryz.prog GG [2] 8 (A4 Tryz.f89.body) (Ext.lit .normal [(2,.nilsl)] []) (.done ():TT Unit) (fun _=>Ext.lit .ret [(2,.nilsl)] []):=by unfold Z9;kernel_rfl
theorem k89r (p0:List Q9):Z9 Tryz.prog GG [0,2,5,6,7] 8 (D1 Tryz.f89.body) (Ext.lit .normal [(0,.sl false 4 (List.map Q2.c p0)),(2,.nilsl)] []) (g89 p0) (fun _=>Ext.of .ret [(2,.ref 7 0 ([]++p0).length)] [] [BT.of 7 Q2 4 ([]++p0)] (by rfl)):=by unfold Z9;kernel_rfl
theorem k89 (p0:(List Q9)) {r:Unit} (h:(g89 p0).run=some r):CallC Tryz.prog GG 89 [.sl false 4 (List.map Q2.c p0)] (ofL []) (.ref 7 0 p0.length) (ofL [(7,⟨4,true,List.map Q2.c p0⟩)]):=
 clone_ok (ty:=Q2) (ops0:=T3 Tryz.f89.body) (ops1:=T2 Tryz.f89.body) (yes:=A4 Tryz.f89.body) (rest:=D1 Tryz.f89.body) (t:=28) Q8 (by decide) Tryz.func89 (by kernel_rfl) (by kernel_rfl) (by kernel_rfl) (by kernel_rfl) (by kernel_rfl) (by kernel_rfl) (by kernel_rfl) (by kernel_rfl) (by kernel_rfl) k89y (k89r p0) (by rfl) h
noncomputable def s89 (p0:List Q9):EV.Spec Tryz.prog GG Unit:=⟨89,[.sl false 4 (List.map Q2.c p0)],[],(g89 p0).run,fun _=>.ref 7 0 p0.length,fun _=>[(7,⟨4,true,List.map Q2.c p0⟩)],[7],fun _ p hp _=>by
 rw[List.mem_singleton.1 hp];exact Q2.data _,fun _ h=>k89 p0 h⟩
noncomputable def g162 (p0:Y8):TT ((Unit)⊕(Unit)):=
 .view 2002 (s160 (M4.mk p0)) [] fun r384=>
 .br 0 (!r384)
 (.done (.inl ()))
 (.call 4004 (s89 p0.fPairs) [] [(7,500046)] fun r385=>
  .done (.inr ()))
noncomputable def s162 (p0:Y8):EV.Spec Tryz.prog GG ((Unit)⊕(Unit)):=.ofFnB 162 [500046] Q8 Tryz.func162 rfl (fun r=>by cases r<;>rfl) (show FnB Tryz.prog GG [0,1,2,3,4,10] Tryz.f162 [.agg [.bool p0.fControlling,.sl false 8 (List.map Q0.c p0.fLocals),.sl false 8 (List.map Q0.c p0.fRemotes),.sl false 4 (List.map Q2.c p0.fPairs)]] (Ext.of .normal (W0 [.agg [.bool p0.fControlling,.sl false 8 (List.map Q0.c p0.fLocals),.sl false 8 (List.map Q0.c p0.fRemotes),.sl false 4 (List.map Q2.c p0.fPairs)]]) [] [] (by rfl)) (g162 p0) (Sum.elim (fun(r:Unit)=>.tup [.nilp,.i 100]) (fun(r:Unit)=>.tup [.ptr 7 0 0,.i 0])) (Sum.elim (fun(r:Unit)=>Ext.of .normal [] [] [] (by rfl)) (fun(r:Unit)=>Ext.of .normal [] [(7,⟨4,true,[[.bool p0.fControlling,.sl false 8 (List.map Q0.c p0.fLocals),.sl false 8 (List.map Q0.c p0.fRemotes),.ref 500046 0 p0.fPairs.length]]⟩)] [BT.of 500046 Q2 4 p0.fPairs true] (by rfl))) by unfold FnB;kernel_rfl)
noncomputable def s165 (p0:Q9):EV.Spec Tryz.prog GG (Bool):=.ofFn 165 Q8 Tryz.func165 (show FnD Tryz.prog GG [0,1,2] Tryz.f165 [.agg (Q2.c p0)] (
 .done (p0.fState==1):TT (Bool)) (fun r=>.bool r) by unfold FnD;kernel_rfl)
noncomputable def s163 (p0:Q9):EV.Spec Tryz.prog GG (Int):=.ofFn 163 Q8 Tryz.func163 (show FnD Tryz.prog GG [0,1,2] Tryz.f163 [.agg (Q2.c p0)] (
 .done p0.fPriority:TT (Int)) (fun r=>.int .i64 r) by unfold FnD;kernel_rfl)
noncomputable def s164 (p0:List Q9):EV.Spec Tryz.prog GG (Int):=.ofFn 164 Q8 Tryz.func164 (show FnD Tryz.prog GG [0,1,2,6,7,8,9,10,11,12,13,35] Tryz.f164 [.sl false 4 (List.map Q2.c p0),.fn 165 [] [],.fn 163 [] []] (
 .bind 1
 (.lp (fun(l392:Int×Int)=>Ext.lit .normal [(0,.sl false 4 (List.map Q2.c p0)),(1,.fn 165 [] []),(2,.fn 163 [] []),(6,.i 0),(7,.i l392.1),(10,.sl false 4 (List.map Q2.c p0)),(11,.i (Y5 Q2 p0)),(12,.i l392.2)] [])
  (fun l392=>
   .br 0 (decide (l392.2 < (Y5 Q2 p0)))
   (.row 4002 Q2 p0 l392.2.toNat (decide (0≤l392.2)) fun x393=>
    .cnd 5 [35]
    (.call 5003 (s165 x393) [] [] fun r394=>
     .br 5005 r394
     (.br 5008 (decide (l392.1 < 0))
      (.done true)
      (.call 5010 (s163 x393) [] [] fun r395=>
       .row 5014 Q2 p0 l392.1.toNat (decide (0≤l392.1)) fun x396=>
       .call 5016 (s163 x396) [] [] fun r397=>
       .done (decide (r397 < r395))))
     (.done false))
    (fun(c398:Bool)=>[.bool c398]) fun c398=>
    .br 0 c398
    (.done (.inl (l392.2,(Q7 (l392.2+1)))))
    (.done (.inl (l392.1,(Q7 (l392.2+1))))))
   (.done (.inr l392.1)))
  ((-1),0))
 (fun(e399:Int)=>Ext.lit (.exit 0) [(6,.i 0),(7,.i e399)] [])
 (fun e399=>
  .done e399):TT (Int)) (fun r=>.int .i64 r) by unfold FnD;kernel_rfl)
noncomputable def s166 (p0:Q9) (p1:List SEnt236) (p2:Bool) (p3 p4:List Q3) (p5:List Q9):EV.Spec Tryz.prog GG (Bool):=.ofFnB 166 [1000002,1000004] Q8 Tryz.func166 rfl (fun _=>rfl) (show FnB Tryz.prog GG [0,1,2,3,4] Tryz.f166 [.agg (Q2.c p0),.ptr 1000000 0 0,.ptr 1000001 0 0] (Ext.of .normal (W0 [.agg (Q2.c p0),.ptr 1000000 0 0,.ptr 1000001 0 0]) [(1000000,⟨1,true,[[.mp 1000002]]⟩),(1000001,⟨1,true,[[.ptr 1000003 0 0]]⟩),(1000003,⟨4,true,[[.bool p2,.sl false 8 (List.map Q0.c p3),.sl false 8 (List.map Q0.c p4),.ref 1000004 0 p5.length]]⟩)] [BT.of 1000002 O8 1114370 p1 true,BT.of 1000004 Q2 4 p5 true] (by rfl)) (
 .cnd 1 [4]
 (.br 1005 (p0.fState==0)
  (.view 1008 (s83 (M4.mk (Y8.mk p2 p3 p4 p5)) p0) [(VwW.of 1000004 Q2 p5)] fun r410=>
   .opr 1009 (Rule.look (mt:=236) (kt:=163) (et:=4) (z:=1114370) (ty:=O8) (p:=(fun x=>((decide (r410.a0=x.fk.a0))&&((decide (r410.a1=x.fk.a1))&&true)))) (kc:=[.str r410.a0,.str r410.a1]) (.tmp 9) (.tmp 12) 13 1000002 true p1 (.bool false) (.bool (O2 p1 (fun x=>((decide (r410.a0=x.fk.a0))&&((decide (r410.a1=x.fk.a1))&&true))) (fun x=>x.fv) false)) ⟨by kernel_rfl,by kernel_rfl,by kernel_rfl,fun _=>by kernel_rfl⟩ (by kernel_rfl) (T0 _ _ (fun x:SEnt236=>x.fv) false V.bool)) fun _=>
   .done (!(O2 p1 (fun x=>((decide (r410.a0=x.fk.a0))&&((decide (r410.a1=x.fk.a1))&&true))) (fun x=>x.fv) false)))
  (.done false))
 (fun(c411:Bool)=>[.bool c411]) fun c411=>
 .done c411:TT (Bool)) (fun(r:Bool)=>.bool r) (fun(r:Bool)=>Ext.of .normal [] [(1000000,⟨1,true,[[.mp 1000002]]⟩),(1000001,⟨1,true,[[.ptr 1000003 0 0]]⟩),(1000003,⟨4,true,[[.bool p2,.sl false 8 (List.map Q0.c p3),.sl false 8 (List.map Q0.c p4),.ref 1000004 0 p5.length]]⟩)] [BT.of 1000002 O8 1114370 p1 true,BT.of 1000004 Q2 4 p5 true] (by rfl)) by unfold FnB;kernel_rfl)
noncomputable def s164_1 (p0:List Q9) (p1:List SEnt236) (p2:Bool) (p3 p4:List Q3):EV.Spec Tryz.prog GG (Int):=.ofFnB 164 [] Q8 Tryz.func164 rfl (fun _=>rfl) (show FnB Tryz.prog GG [0,1,2,6,7,8,9,10,11,12,13,35] Tryz.f164 [.ref 1000000 0 p0.length,.fn 166 [] [.ptr 1000001 0 0,.ptr 1000002 0 0],.fn 163 [] []] (Ext.of .normal (W0 [.ref 1000000 0 p0.length,.fn 166 [] [.ptr 1000001 0 0,.ptr 1000002 0 0],.fn 163 [] []]) [(1000001,⟨1,true,[[.mp 1000003]]⟩),(1000002,⟨1,true,[[.ptr 1000004 0 0]]⟩),(1000004,⟨4,true,[[.bool p2,.sl false 8 (List.map Q0.c p3),.sl false 8 (List.map Q0.c p4),.ref 1000000 0 p0.length]]⟩)] [BT.of 1000000 Q2 4 p0 true,BT.of 1000003 O8 1114370 p1 true] (by rfl)) (
 .bind 1
 (.lp (fun(l412:Int×Int)=>Ext.of .normal [(0,.ref 1000000 0 p0.length),(1,.fn 166 [] [.ptr 1000001 0 0,.ptr 1000002 0 0]),(2,.fn 163 [] []),(6,.i 0),(7,.i l412.1),(10,.ref 1000000 0 p0.length),(11,.i (p0.length:Int)),(12,.i l412.2)] [(1000001,⟨1,true,[[.mp 1000003]]⟩),(1000002,⟨1,true,[[.ptr 1000004 0 0]]⟩),(1000004,⟨4,true,[[.bool p2,.sl false 8 (List.map Q0.c p3),.sl false 8 (List.map Q0.c p4),.ref 1000000 0 p0.length]]⟩)] [BT.of 1000000 Q2 4 p0 true,BT.of 1000003 O8 1114370 p1 true] (by rfl))
  (fun l412=>
   .br 0 (decide (l412.2 < (p0.length:Int)))
   (.chk 4002 (decide (0≤l412.2)&&decide (l412.2 < (p0.length:Int))) (.row 4003 Q2 p0 (0+l412.2.toNat) true fun x413=>
    .cnd 5 [35]
    (.opr 5003 (Rule.callRead (s166 x413 p1 p2 p3 p4 p0) (.tmp 17) #[.tmp 18] #[106] 19 [] [.agg (Q2.c x413)] [.ptr 1000001 0 0,.ptr 1000002 0 0] [(1000000,1000001,⟨1,true,[[.mp 1000003]]⟩),(1000001,1000002,⟨1,true,[[.ptr 1000004 0 0]]⟩),(1000003,1000004,⟨4,true,[[.bool p2,.sl false 8 (List.map Q0.c p3),.sl false 8 (List.map Q0.c p4),.ref 1000000 0 p0.length]]⟩)] [(1000002,BT.of 1000003 O8 1114370 p1 true),(1000004,BT.of 1000000 Q2 4 p0 true)] [(1000000,1000001),(1000001,1000002),(1000003,1000004),(1000002,1000003),(1000004,1000000)] (by kernel_rfl) (by kernel_rfl) (by kernel_rfl) (by kernel_rfl) (by kernel_rfl) (by kernel_rfl) (by kernel_rfl) (by kernel_rfl) (by kernel_rfl) (by kernel_rfl) (fun _=>by kernel_rfl) (fun _=>⟨by kernel_rfl,by kernel_rfl⟩)) fun r414=>
     .br 5005 r414
     (.br 5008 (decide (l412.1 < 0))
      (.done true)
      (.call 5010 (s163 x413) [] [] fun r415=>
       .chk 5014 (decide (0≤l412.1)&&decide (l412.1 < (p0.length:Int))) (.row 5015 Q2 p0 (0+l412.1.toNat) true fun x416=>
       .call 5016 (s163 x416) [] [] fun r417=>
       .done (decide (r417 < r415)))))
     (.done false))
    (fun(c418:Bool)=>[.bool c418]) fun c418=>
    .br 0 c418
    (.done (.inl (l412.2,(Q7 (l412.2+1)))))
    (.done (.inl (l412.1,(Q7 (l412.2+1)))))))
   (.done (.inr l412.1)))
  ((-1),0))
 (fun(e419:Int)=>Ext.lit (.exit 0) [(6,.i 0),(7,.i e419)] [])
 (fun e419=>
  .done e419):TT (Int)) (fun(r:Int)=>.int .i64 r) (fun(r:Int)=>Ext.of .normal [] [] [] (by rfl)) by unfold FnB;kernel_rfl)
noncomputable def s93 (p0:Y8):EV.Spec Tryz.prog GG (Int×Int):=.ofFn 93 Q8 Tryz.func93 (show FnD Tryz.prog GG [0,1,2,3,4,5,6,7,8,10,17,27,33,34,35,36,41,56] Tryz.f93 [.agg [.bool p0.fControlling,.sl false 8 (List.map Q0.c p0.fLocals),.sl false 8 (List.map Q0.c p0.fRemotes),.sl false 4 (List.map Q2.c p0.fPairs)]] (
 .call2 1002 (s162 p0) [] [(7,500047),(500046,500048)] (fun r386=>
  .tt (.done (0,100)))
 (fun r387=>
  .ff (.view 5007 (s164 p0.fPairs) [(VwW.of 500048 Q2 p0.fPairs)] fun r400=>
  .bind 0
  (.br 0 (decide (r400 < 0))
   (.opr 7001 (Rule.makeMap 236 28 1114370 (by decide)) fun _=>
    .opr 7002 (Rule.allocAny 236 8 (by kernel_rfl)) fun _=>
    .bind 1
    (.lp (fun(l404:(List SEnt236)×Int)=>Ext.of .normal [(2,.i 0),(3,.i 0),(4,.ptr 4 0 0),(6,.fn 163 [] []),(7,.i r400),(8,.ptr 8 0 0),(33,.ref 500048 0 p0.fPairs.length),(34,.i (p0.fPairs.length:Int)),(35,.i l404.2)] [(4,⟨1,true,[[.ptr 500047 0 0]]⟩),(8,⟨1,true,[[.mp 28]]⟩),(500047,⟨4,true,[[.bool p0.fControlling,.sl false 8 (List.map Q0.c p0.fLocals),.sl false 8 (List.map Q0.c p0.fRemotes),.ref 500048 0 p0.fPairs.length]]⟩)] [BT.of 28 O8 1114370 l404.1 true,BT.of 500048 Q2 4 p0.fPairs true] (by rfl))
     (fun l404=>
      .br 0 (decide (l404.2 < (p0.fPairs.length:Int)))
      (.chk 10001 (decide (0≤l404.2)&&decide (l404.2 < (p0.fPairs.length:Int))) (.row 10002 Q2 p0.fPairs (0+l404.2.toNat) true fun x405=>
       .br 0 (x405.fState==2)
       (.view 12004 (s83 (M4.mk p0) x405) [(VwW.of 500048 Q2 p0.fPairs)] fun r406=>
        .opr 12005 (Rule.put (mt:=236) (kt:=163) (et:=4) (z:=1114370) (ty:=O8) (p:=(fun x=>((decide (r406.a0=x.fk.a0))&&((decide (r406.a1=x.fk.a1))&&true)))) (kc:=[.str r406.a0,.str r406.a1]) (.tmp 42) (.tmp 45) (.const (.bool true)) 28 l404.1 (SEnt236.mk r406 true) [.bool true] ⟨by kernel_rfl,by kernel_rfl,by kernel_rfl,fun _=>by kernel_rfl⟩ (by rfl) (by kernel_rfl) (by kernel_rfl) (by decide) (by decide)) fun _=>
        .done (.inl ((mput l404.1 (fun x=>((decide (r406.a0=x.fk.a0))&&((decide (r406.a1=x.fk.a1))&&true))) (SEnt236.mk r406 true)),(Q7 (l404.2+1)))))
       (.done (.inl (l404.1,(Q7 (l404.2+1)))))))
      (.done (.inr (l404.1,r400))))
     ([],0))
    (fun(e407:(List SEnt236)×Int)=>Ext.of (.exit 0) [(2,.i 0),(3,.i 0),(4,.ptr 4 0 0),(6,.fn 163 [] []),(7,.i e407.2),(8,.ptr 8 0 0)] [(4,⟨1,true,[[.ptr 500047 0 0]]⟩),(8,⟨1,true,[[.mp 28]]⟩),(500047,⟨4,true,[[.bool p0.fControlling,.sl false 8 (List.map Q0.c p0.fLocals),.sl false 8 (List.map Q0.c p0.fRemotes),.ref 500048 0 p0.fPairs.length]]⟩)] [BT.of 28 O8 1114370 e407.1 true,BT.of 500048 Q2 4 p0.fPairs true] (by rfl))
    (fun e407=>
     .call 14008 (s164_1 p0.fPairs e407.1 p0.fControlling p0.fLocals p0.fRemotes) [(1000001,8),(1000002,4),(1000004,500047),(1000000,500048),(1000003,28)] [] fun r420=>
     .done r420))
   (.done r400))
  (fun(e421:Int)=>Ext.lit .normal [(2,.i 0),(3,.i 0),(7,.i e421)] [])
  (fun e421=>
   .br 0 (decide (e421 < 0))
   (.done (0,4))
   (.done (e421,0))))):TT (Int×Int)) (fun r=>.tup [.int .i64 r.1,.int .i64 r.2]) by unfold FnD;kernel_rfl)
end Go.Proofs.YtjpahkpfkohfkaaGreatDoor
namespace Go.Proofs.YtjpahkpfkohfkaaGreatDoor
open Go Go.EV
set_option maxRecDepth 100000
structure SCheck where
 fpair:Int
 fuse:Bool
structure SEnt230 where
 fk:SCheck
 fv:Bool
structure Z4 where
 fId:Int
 fPair:Int
 fDue:Int
 fTries:Int
 fUse:Bool
 fControlling:Bool
structure Y7 where
 fList:Y8
 fTie:Int
 fNow:Int
 fNext:Int
 fSerial:Int
 fChosen:Int
 fQueue:(List Int)
 fNamed:(List Bool)
 fChecks:(List Z4)
structure U5 where
 fFrom:Z2
 fTo:Z2
 fProbe:Y6
def Z0:Ty Bool:=⟨fun x=>[.bool x],fun x=>[.bool x],fun _=>rfl,fun _=>rfl,fun _ _=>rfl,fun _=>rfl⟩
def tySEnt230:Ty SEnt230:=⟨fun x=>[.i x.fk.fpair,.bool x.fk.fuse,.bool x.fv],fun x=>[.i x.fk.fpair,.bool x.fk.fuse,.bool x.fv],fun _=>rfl,fun _=>rfl,fun _ _=>rfl,fun _=>rfl⟩
def Z1:Ty Int:=⟨fun x=>[.i x],fun x=>[.i x],fun _=>rfl,fun _=>rfl,fun _ _=>rfl,fun _=>rfl⟩
def Q5:Ty Z4:=⟨fun x=>[.i x.fId,.i x.fPair,.i x.fDue,.i x.fTries,.bool x.fUse,.bool x.fControlling],fun x=>[.i x.fId,.i x.fPair,.i x.fDue,.i x.fTries,.bool x.fUse,.bool x.fControlling],fun _=>rfl,fun _=>rfl,fun _ _=>rfl,fun _=>rfl⟩
def Y2:Ty U5:=⟨fun x=>[.str x.fFrom.fHost,.i x.fFrom.fPort,.str x.fTo.fHost,.i x.fTo.fPort,.i x.fProbe.fKind,.i x.fProbe.fId,.i x.fProbe.fPriority,.bool x.fProbe.fControlling,.i x.fProbe.fTie,.bool x.fProbe.fUse,.str x.fProbe.fSeen.fHost,.i x.fProbe.fSeen.fPort],fun x=>[.str x.fFrom.fHost,.i x.fFrom.fPort,.str x.fTo.fHost,.i x.fTo.fPort,.i x.fProbe.fKind,.i x.fProbe.fId,.i x.fProbe.fPriority,.bool x.fProbe.fControlling,.i x.fProbe.fTie,.bool x.fProbe.fUse,.str x.fProbe.fSeen.fHost,.i x.fProbe.fSeen.fPort],fun _=>rfl,fun _=>rfl,fun _ _=>rfl,fun _=>rfl⟩
noncomputable def s85 (p0:Q3):EV.Spec Tryz.prog GG (Bool):=.ofFn 85 Q8 Tryz.func85 (show FnD Tryz.prog GG [0,1,2] Tryz.f85 [.agg (Q0.c p0)] (
 .done (p0.fComponent != 1):TT (Bool)) (fun r=>.bool r) by unfold FnD;kernel_rfl)
noncomputable def s102_1 (p0:List Q3):EV.Spec Tryz.prog GG (Int):=.ofFn 102 Q8 Tryz.func102 (show FnD Tryz.prog GG [0,1,4,5,7,8,9,16] Tryz.f102 [.sl false 8 (List.map Q0.c p0),.fn 85 [] []] (
 .bind2 1
 (.lp (fun(l457:Int)=>Ext.lit .normal [(0,.sl false 8 (List.map Q0.c p0)),(1,.fn 85 [] []),(4,.i 0),(7,.i (Y5 Q0 p0)),(8,.i l457)] [])
  (fun l457=>
   .br 0 (decide (l457 < (Y5 Q0 p0)))
   (.row 4004 Q0 p0 l457.toNat (decide (0≤l457)) fun x458=>
    .call 4006 (s85 x458) [] [] fun r459=>
    .br 0 r459
    (.done (.inr (.inl l457)))
    (.done (.inl (Q7 (l457+1)))))
   (.done (.inr (.inr ()))))
  0)
 (fun(e460:Int)=>Ext.lit .ret [(4,.i e460)] [])
 (fun(e461:Unit)=>Ext.lit (.exit 0) [(4,.i 0)] [])
 (fun e460=>
  .done e460)
 (fun e461=>
  .done (-1)):TT (Int)) (fun r=>.int .i64 r) by unfold FnD;kernel_rfl)
noncomputable def s50 (p0:List Q3):EV.Spec Tryz.prog GG (Int):=.ofFn 50 Q8 Tryz.func50 (show FnD Tryz.prog GG [0,1,4] Tryz.f50 [.sl false 8 (List.map Q0.c p0),.fn 85 [] []] (
 .call 1003 (s102_1 p0) [] [] fun r462=>
 .done r462:TT (Int)) (fun r=>.int .i64 r) by unfold FnD;kernel_rfl)
noncomputable def s88 (p0:Bool) (p1 p2:List Q3) (p3:List Q9) (p4 p5 p6 p7 p8:Int) (p9:List Bool):EV.Spec Tryz.prog GG (Bool):=.ofFn 88 Q8 Tryz.func88 (show FnD Tryz.prog GG [0,2,3,4,6,12,13,14,15,75] Tryz.f88 [.snap [.bool p0,.sl false 8 (List.map Q0.c p1),.sl false 8 (List.map Q0.c p2),.sl false 4 (List.map Q2.c p3),.i p4,.i p5,.i p6,.i p7,.i p8,.nilsl,.sl false 1 (List.map Z0.c p9),.nilsl,.nilsl]] (
 .opr 1001 (Rule.makeMap 230 7 1114370 (by decide)) fun _=>
 .ff (.done true):TT (Bool)) (fun r=>.bool r) by unfold FnD;kernel_rfl)
noncomputable def s34 (p0:Bool) (p1 p2:List Q3) (p3:List Q9) (p4 p5 p6 p7 p8:Int) (p9:List Bool):EV.Spec Tryz.prog GG (Bool):=.ofFn 34 Q8 Tryz.func34 (show FnD Tryz.prog GG [0,2,3,4,5,6,35,97,120,125,126,127,128,147] Tryz.f34 [.snap [.bool p0,.sl false 8 (List.map Q0.c p1),.sl false 8 (List.map Q0.c p2),.sl false 4 (List.map Q2.c p3),.i p4,.i p5,.i p6,.i p7,.i p8,.nilsl,.sl false 1 (List.map Z0.c p9),.nilsl,.nilsl]] (
 .cnd 2 [35]
 (.call 2006 (s86 (Y8.mk p0 p1 p2 p3)) [] [] fun r453=>
  .br 2009 (r453 != 0)
  (.done true)
  (.call 2016 (s50 p1) [] [] fun r463=>
   .br 2020 (decide ((0:Int)≤r463))
   (.done true)
   (.call 2027 (s50 p2) [] [] fun r464=>
    .done (decide ((0:Int)≤r464)))))
 (fun(c465:Bool)=>[.bool c465]) fun c465=>
 .br 0 c465
 (.done false)
 (.cnd 5 [97]
  (.call 5006 (s39 p4 0 281474976710655) [] [] fun r466=>
   .br 5009 (!r466)
   (.done true)
   (.call 5014 (s39 p5 0 1099511627776) [] [] fun r467=>
    .br 5018 (!r467)
    (.done true)
    (.call 5023 (s39 p6 0 1099511627826) [] [] fun r468=>
     .br 5027 (!r468)
     (.done true)
     (.call 5032 (s39 p7 0 1099511627776) [] [] fun r469=>
      .br 5036 (!r469)
      (.done true)
      (.br 5046 ((Y5 Z0 p9) != (Y5 Q2 p3))
       (.done true)
       (.call 5053 (s39 p8 (-1) (Q7 ((Y5 Q2 p3) - 1))) [] [] fun r470=>
        .done (!r470)))))))
  (fun(c471:Bool)=>[.bool c471]) fun c471=>
  .br 0 c471
  (.done false)
  (.cnd 7 [120]
   (.br 7008 (decide ((0:Int)≤p8))
    (.row 7019 Q2 p3 p8.toNat (decide (0≤p8)) fun x472=>
     .done (x472.fState != 3))
    (.done false))
   (fun(c473:Bool)=>[.bool c473]) fun c473=>
   .br 0 c473
   (.done false)
   (.ff (.call 15002 (s88 p0 p1 p2 p3 p4 p5 p6 p7 p8 p9) [] [] fun r474=>
    .done r474)))):TT (Bool)) (fun r=>.bool r) by unfold FnD;kernel_rfl)
noncomputable def g9 (p0 p1:List Q3) (p2:Bool) (p3 p4:Int):TT (Y7×Int):=
 .call 1004 (s33 p0 p1 p2) [] [] fun r452=>
 .br 0 (r452.2 != 0)
 (.done ((Y7.mk (Y8.mk false [] [] []) 0 0 0 0 0 [] [] []),r452.2))
 (.opr 4008 (Rule.makeD (ty:=Z0) (t:=32) (e:=4) (zv:=.bool false) (zc:=.bool false) false (.tmp 33) (.tmp 33) 34 (Y5 Q2 r452.1.fPairs) (Y5 Q2 r452.1.fPairs) 1 (by kernel_rfl) (by kernel_rfl) (by kernel_rfl) rfl ⟨rfl,rfl,rfl⟩ (fun _ _=>by constructor)) fun _=>
  .gh 7 (.len 34 ((List.replicate (Y5 Q2 r452.1.fPairs).toNat false).length) [(Y5 Q2 r452.1.fPairs).toNat] (by simp)) (.view 6002 (s34 r452.1.fControlling r452.1.fLocals r452.1.fRemotes r452.1.fPairs p3 p4 p4 0 (-1) (List.replicate (Y5 Q2 r452.1.fPairs).toNat false)) [(VwW.of 34 Z0 (List.replicate (Y5 Q2 r452.1.fPairs).toNat false))] fun r475=>
  .br 0 (!r475)
  (.done ((Y7.mk (Y8.mk false [] [] []) 0 0 0 0 0 [] [] []),2))
  (.gh 0 (.share (VwW.of 34 Z0 (List.replicate (Y5 Q2 r452.1.fPairs).toNat false)) 2) (.done ((Y7.mk r452.1 p3 p4 p4 0 (-1) [] (List.replicate (Y5 Q2 r452.1.fPairs).toNat false) []),0)))))
noncomputable def s161 (p0:List Int) (p1:Int):EV.Spec Tryz.prog GG (Int):=.ofFn 161 Q8 Tryz.func161 (show FnD Tryz.prog GG [0,1,4,5,7,8,9,16] Tryz.f161 [.sl false 1 (List.map Z1.c p0),.i p1] (
 .bind2 1
 (.lp (fun(l493:Int)=>Ext.lit .normal [(0,.sl false 1 (List.map Z1.c p0)),(1,.i p1),(4,.i 0),(7,.i (Y5 Z1 p0)),(8,.i l493)] [])
  (fun l493=>
   .br 0 (decide (l493 < (Y5 Z1 p0)))
   (.row 4004 Z1 p0 l493.toNat (decide (0≤l493)) fun x494=>
    .br 0 (p1==x494)
    (.done (.inr (.inl l493)))
    (.done (.inl (Q7 (l493+1)))))
   (.done (.inr (.inr ()))))
  0)
 (fun(e495:Int)=>Ext.lit .ret [(4,.i e495)] [])
 (fun(e496:Unit)=>Ext.lit (.exit 0) [(4,.i 0)] [])
 (fun e495=>
  .done e495)
 (fun e496=>
  .done (-1)):TT (Int)) (fun r=>.int .i64 r) by unfold FnD;kernel_rfl)
noncomputable def s87 (p0:List Int) (p1:Int):EV.Spec Tryz.prog GG (Bool):=.ofFn 87 Q8 Tryz.func87 (show FnD Tryz.prog GG [0,1,4] Tryz.f87 [.sl false 1 (List.map Z1.c p0),.i p1] (
 .call 1003 (s161 p0 p1) [] [] fun r497=>
 .done (decide ((0:Int)≤r497)):TT (Bool)) (fun r=>.bool r) by unfold FnD;kernel_rfl)
noncomputable def s88_1 (p0:Bool) (p1 p2:List Q3) (p3:List Q9) (p4 p5 p6 p7 p8:Int) (p9:List Int) (p10:List Bool) (p11:List Z4):EV.Spec Tryz.prog GG (Bool):=.ofFn 88 Q8 Tryz.func88 (show FnD Tryz.prog GG [0,2,3,4,6,12,13,14,15,75] Tryz.f88 [.snap [.bool p0,.sl false 8 (List.map Q0.c p1),.sl false 8 (List.map Q0.c p2),.sl false 4 (List.map Q2.c p3),.i p4,.i p5,.i p6,.i p7,.i p8,.sl false 1 (List.map Z1.c p9),.sl false 1 (List.map Z0.c p10),.sl false 6 (List.map Q5.c p11),.nilsl]] (
 .opr 1001 (Rule.makeMap 230 7 1114370 (by decide)) fun _=>
 .bind2 1
 (.lp (fun(l506:(List SEnt230)×Int×Int)=>Ext.of .normal [(0,.snap [.bool p0,.sl false 8 (List.map Q0.c p1),.sl false 8 (List.map Q0.c p2),.sl false 4 (List.map Q2.c p3),.i p4,.i p5,.i p6,.i p7,.i p8,.sl false 1 (List.map Z1.c p9),.sl false 1 (List.map Z0.c p10),.sl false 6 (List.map Q5.c p11),.nilsl]),(2,.bool false),(3,.mp 7),(4,.i l506.2.1),(12,.sl false 6 (List.map Q5.c p11)),(13,.i (Y5 Q5 p11)),(14,.i l506.2.2)] [] [BT.of 7 tySEnt230 1114370 l506.1 true] (by rfl))
  (fun l506=>
   .br 0 (decide (l506.2.2 < (Y5 Q5 p11)))
   (.row 5001 Q5 p11 l506.2.2.toNat (decide (0≤l506.2.2)) fun x507=>
    .cnd 6 [75]
    (.br 6006 (decide (x507.fId≤l506.2.1))
     (.done true)
     (.br 6016 (decide (p7≤x507.fId))
      (.done true)
      (.call 6026 (s39 x507.fPair 0 (Q7 ((Y5 Q2 p3) - 1))) [] [] fun r508=>
       .br 6030 (!r508)
       (.done true)
       (.call 6032 (s39 x507.fDue 0 1099511629376) [] [] fun r509=>
        .br 6036 (!r509)
        (.done true)
        (.call 6038 (s39 x507.fTries 1 4) [] [] fun r510=>
         .br 6042 (!r510)
         (.done true)
         (.br 6045 x507.fUse
          (.br 6051 (!x507.fControlling)
           (.done true)
           (.opr 6057 (Rule.look (mt:=230) (kt:=232) (et:=4) (z:=1114370) (ty:=tySEnt230) (p:=(fun x=>((x507.fPair==x.fk.fpair)&&((x507.fUse==x.fk.fuse)&&true)))) (kc:=[.int .i64 x507.fPair,.bool x507.fUse]) (.tmp 68) (.tmp 73) 74 7 true l506.1 (.bool false) (.bool (O2 l506.1 (fun x=>((x507.fPair==x.fk.fpair)&&((x507.fUse==x.fk.fuse)&&true))) (fun x=>x.fv) false)) ⟨by kernel_rfl,by kernel_rfl,by kernel_rfl,fun _=>by kernel_rfl⟩ (by kernel_rfl) (T0 _ _ (fun x:SEnt230=>x.fv) false V.bool)) fun _=>
            .done (O2 l506.1 (fun x=>((x507.fPair==x.fk.fpair)&&((x507.fUse==x.fk.fuse)&&true))) (fun x=>x.fv) false)))
          (.opr 6057 (Rule.look (mt:=230) (kt:=232) (et:=4) (z:=1114370) (ty:=tySEnt230) (p:=(fun x=>((x507.fPair==x.fk.fpair)&&((x507.fUse==x.fk.fuse)&&true)))) (kc:=[.int .i64 x507.fPair,.bool x507.fUse]) (.tmp 68) (.tmp 73) 74 7 true l506.1 (.bool false) (.bool (O2 l506.1 (fun x=>((x507.fPair==x.fk.fpair)&&((x507.fUse==x.fk.fuse)&&true))) (fun x=>x.fv) false)) ⟨by kernel_rfl,by kernel_rfl,by kernel_rfl,fun _=>by kernel_rfl⟩ (by kernel_rfl) (T0 _ _ (fun x:SEnt230=>x.fv) false V.bool)) fun _=>
           .done (O2 l506.1 (fun x=>((x507.fPair==x.fk.fpair)&&((x507.fUse==x.fk.fuse)&&true))) (fun x=>x.fv) false))))))))
    (fun(c511:Bool)=>[.bool c511]) fun c511=>
    .br 0 c511
    (.done (.inr (.inl ())))
    (.opr 8010 (Rule.put (mt:=230) (kt:=232) (et:=4) (z:=1114370) (ty:=tySEnt230) (p:=(fun x=>((x507.fPair==x.fk.fpair)&&((x507.fUse==x.fk.fuse)&&true)))) (kc:=[.int .i64 x507.fPair,.bool x507.fUse]) (.tmp 76) (.tmp 81) (.const (.bool true)) 7 l506.1 (SEnt230.mk (SCheck.mk x507.fPair x507.fUse) true) [.bool true] ⟨by kernel_rfl,by kernel_rfl,by kernel_rfl,fun _=>by kernel_rfl⟩ (by rfl) (by kernel_rfl) (by kernel_rfl) (by decide) (by decide)) fun _=>
     .done (.inl ((mput l506.1 (fun x=>((x507.fPair==x.fk.fpair)&&((x507.fUse==x.fk.fuse)&&true))) (SEnt230.mk (SCheck.mk x507.fPair x507.fUse) true)),x507.fId,(Q7 (l506.2.2+1))))))
   (.done (.inr (.inr ()))))
  ([],(-1),0))
 (fun(e512:Unit)=>Ext.lit .ret [(2,.bool false)] [])
 (fun(e513:Unit)=>Ext.lit (.exit 0) [(2,.bool false)] [])
 (fun e512=>
  .done false)
 (fun e513=>
  .done true):TT (Bool)) (fun r=>.bool r) by unfold FnD;kernel_rfl)
noncomputable def s34_1 (p0:Bool) (p1 p2:List Q3) (p3:List Q9) (p4 p5 p6 p7 p8:Int) (p9:List Int) (p10:List Bool) (p11:List Z4):EV.Spec Tryz.prog GG (Bool):=.ofFn 34 Q8 Tryz.func34 (show FnD Tryz.prog GG [0,2,3,4,5,6,35,97,120,125,126,127,128,147] Tryz.f34 [.snap [.bool p0,.sl false 8 (List.map Q0.c p1),.sl false 8 (List.map Q0.c p2),.sl false 4 (List.map Q2.c p3),.i p4,.i p5,.i p6,.i p7,.i p8,.sl false 1 (List.map Z1.c p9),.sl false 1 (List.map Z0.c p10),.sl false 6 (List.map Q5.c p11),.nilsl]] (
 .cnd 2 [35]
 (.call 2006 (s86 (Y8.mk p0 p1 p2 p3)) [] [] fun r476=>
  .br 2009 (r476 != 0)
  (.done true)
  (.call 2016 (s50 p1) [] [] fun r477=>
   .br 2020 (decide ((0:Int)≤r477))
   (.done true)
   (.call 2027 (s50 p2) [] [] fun r478=>
    .done (decide ((0:Int)≤r478)))))
 (fun(c479:Bool)=>[.bool c479]) fun c479=>
 .br 0 c479
 (.done false)
 (.cnd 5 [97]
  (.call 5006 (s39 p4 0 281474976710655) [] [] fun r480=>
   .br 5009 (!r480)
   (.done true)
   (.call 5014 (s39 p5 0 1099511627776) [] [] fun r481=>
    .br 5018 (!r481)
    (.done true)
    (.call 5023 (s39 p6 0 1099511627826) [] [] fun r482=>
     .br 5027 (!r482)
     (.done true)
     (.call 5032 (s39 p7 0 1099511627776) [] [] fun r483=>
      .br 5036 (!r483)
      (.done true)
      (.br 5046 ((Y5 Z0 p10) != (Y5 Q2 p3))
       (.done true)
       (.call 5053 (s39 p8 (-1) (Q7 ((Y5 Q2 p3) - 1))) [] [] fun r484=>
        .done (!r484)))))))
  (fun(c485:Bool)=>[.bool c485]) fun c485=>
  .br 0 c485
  (.done false)
  (.cnd 7 [120]
   (.br 7008 (decide ((0:Int)≤p8))
    (.row 7019 Q2 p3 p8.toNat (decide (0≤p8)) fun x486=>
     .done (x486.fState != 3))
    (.done false))
   (fun(c487:Bool)=>[.bool c487]) fun c487=>
   .br 0 c487
   (.done false)
   (.bind2 1
    (.lp (fun(l493:Int)=>Ext.lit .normal [(0,.snap [.bool p0,.sl false 8 (List.map Q0.c p1),.sl false 8 (List.map Q0.c p2),.sl false 4 (List.map Q2.c p3),.i p4,.i p5,.i p6,.i p7,.i p8,.sl false 1 (List.map Z1.c p9),.sl false 1 (List.map Z0.c p10),.sl false 6 (List.map Q5.c p11),.nilsl]),(2,.bool false),(4,.i (Y5 Q2 p3)),(125,.sl false 1 (List.map Z1.c p9)),(126,.i (Y5 Z1 p9)),(127,.i l493)] [])
     (fun l493=>
      .br 0 (decide (l493 < (Y5 Z1 p9)))
      (.row 11002 Z1 p9 l493.toNat (decide (0≤l493)) fun x494=>
       .cnd 12 [147]
       (.call 12004 (s39 x494 0 (Q7 ((Y5 Q2 p3) - 1))) [] [] fun r495=>
        .br 12007 (!r495)
        (.done true)
        (.chk 12013 (decide (0≤l493)&&decide (l493≤((mlenn Z1 p9):Int))) (.re 12013 (ReW.cutHi 144 1 Z1 p9 l493.toNat) (.call 12015 (s87 (p9.take l493.toNat) x494) [] [] fun r496=>
         .done r496))))
       (fun(c497:Bool)=>[.bool c497]) fun c497=>
       .br 0 c497
       (.done (.inr (.inl ())))
       (.done (.inl (Q7 (l493+1)))))
      (.done (.inr (.inr ()))))
     0)
    (fun(e498:Unit)=>Ext.lit .ret [(0,.snap [.bool p0,.sl false 8 (List.map Q0.c p1),.sl false 8 (List.map Q0.c p2),.sl false 4 (List.map Q2.c p3),.i p4,.i p5,.i p6,.i p7,.i p8,.sl false 1 (List.map Z1.c p9),.sl false 1 (List.map Z0.c p10),.sl false 6 (List.map Q5.c p11),.nilsl]),(2,.bool false)] [])
    (fun(e499:Unit)=>Ext.lit (.exit 0) [(0,.snap [.bool p0,.sl false 8 (List.map Q0.c p1),.sl false 8 (List.map Q0.c p2),.sl false 4 (List.map Q2.c p3),.i p4,.i p5,.i p6,.i p7,.i p8,.sl false 1 (List.map Z1.c p9),.sl false 1 (List.map Z0.c p10),.sl false 6 (List.map Q5.c p11),.nilsl]),(2,.bool false)] [])
    (fun e498=>
     .done false)
    (fun e499=>
     .call 15002 (s88_1 p0 p1 p2 p3 p4 p5 p6 p7 p8 p9 p10 p11) [] [] fun r514=>
     .done r514)))):TT (Bool)) (fun r=>.bool r) by unfold FnD;kernel_rfl)
noncomputable def g90 (p0:List Int):TT Unit:=.app 3003 Z1 [] p0 8 true (by intros;rfl) (.done ())
theorem k90y:Z9 Tryz.prog GG [2] 8 (A4 Tryz.f90.body) (Ext.lit .normal [(2,.nilsl)] []) (.done ():TT Unit) (fun _=>Ext.lit .ret [(2,.nilsl)] []):=by unfold Z9;kernel_rfl
theorem k90r (p0:List Int):Z9 Tryz.prog GG [0,2,5,6,7] 8 (D1 Tryz.f90.body) (Ext.lit .normal [(0,.sl false 1 (List.map Z1.c p0)),(2,.nilsl)] []) (g90 p0) (fun _=>Ext.of .ret [(2,.ref 7 0 ([]++p0).length)] [] [BT.of 7 Z1 1 ([]++p0)] (by rfl)):=by unfold Z9;kernel_rfl
theorem k90 (p0:(List Int)) {r:Unit} (h:(g90 p0).run=some r):CallC Tryz.prog GG 90 [.sl false 1 (List.map Z1.c p0)] (ofL []) (.ref 7 0 p0.length) (ofL [(7,⟨1,true,List.map Z1.c p0⟩)]):=
 clone_ok (ty:=Z1) (ops0:=T3 Tryz.f90.body) (ops1:=T2 Tryz.f90.body) (yes:=A4 Tryz.f90.body) (rest:=D1 Tryz.f90.body) (t:=31) Q8 (by decide) Tryz.func90 (by kernel_rfl) (by kernel_rfl) (by kernel_rfl) (by kernel_rfl) (by kernel_rfl) (by kernel_rfl) (by kernel_rfl) (by kernel_rfl) (by kernel_rfl) k90y (k90r p0) (by rfl) h
noncomputable def s90 (p0:List Int):EV.Spec Tryz.prog GG Unit:=⟨90,[.sl false 1 (List.map Z1.c p0)],[],(g90 p0).run,fun _=>.ref 7 0 p0.length,fun _=>[(7,⟨1,true,List.map Z1.c p0⟩)],[7],fun _ p hp _=>by
 rw[List.mem_singleton.1 hp];exact Z1.data _,fun _ h=>k90 p0 h⟩
noncomputable def g91 (p0:List Bool):TT Unit:=.app 3003 Z0 [] p0 1 true (by intros;rfl) (.done ())
theorem k91y:Z9 Tryz.prog GG [2] 8 (A4 Tryz.f91.body) (Ext.lit .normal [(2,.nilsl)] []) (.done ():TT Unit) (fun _=>Ext.lit .ret [(2,.nilsl)] []):=by unfold Z9;kernel_rfl
theorem k91r (p0:List Bool):Z9 Tryz.prog GG [0,2,5,6,7] 8 (D1 Tryz.f91.body) (Ext.lit .normal [(0,.sl false 1 (List.map Z0.c p0)),(2,.nilsl)] []) (g91 p0) (fun _=>Ext.of .ret [(2,.ref 7 0 ([]++p0).length)] [] [BT.of 7 Z0 1 ([]++p0)] (by rfl)):=by unfold Z9;kernel_rfl
theorem k91 (p0:(List Bool)) {r:Unit} (h:(g91 p0).run=some r):CallC Tryz.prog GG 91 [.sl false 1 (List.map Z0.c p0)] (ofL []) (.ref 7 0 p0.length) (ofL [(7,⟨1,true,List.map Z0.c p0⟩)]):=
 clone_ok (ty:=Z0) (ops0:=T3 Tryz.f91.body) (ops1:=T2 Tryz.f91.body) (yes:=A4 Tryz.f91.body) (rest:=D1 Tryz.f91.body) (t:=32) Q8 (by decide) Tryz.func91 (by kernel_rfl) (by kernel_rfl) (by kernel_rfl) (by kernel_rfl) (by kernel_rfl) (by kernel_rfl) (by kernel_rfl) (by kernel_rfl) (by kernel_rfl) k91y (k91r p0) (by rfl) h
noncomputable def s91 (p0:List Bool):EV.Spec Tryz.prog GG Unit:=⟨91,[.sl false 1 (List.map Z0.c p0)],[],(g91 p0).run,fun _=>.ref 7 0 p0.length,fun _=>[(7,⟨1,true,List.map Z0.c p0⟩)],[7],fun _ p hp _=>by
 rw[List.mem_singleton.1 hp];exact Z0.data _,fun _ h=>k91 p0 h⟩
noncomputable def g92 (p0:List Z4):TT Unit:=.app 3003 Q5 [] p0 40 true (by intros;rfl) (.done ())
theorem k92y:Z9 Tryz.prog GG [2] 8 (A4 Tryz.f92.body) (Ext.lit .normal [(2,.nilsl)] []) (.done ():TT Unit) (fun _=>Ext.lit .ret [(2,.nilsl)] []):=by unfold Z9;kernel_rfl
theorem k92r (p0:List Z4):Z9 Tryz.prog GG [0,2,5,6,7] 8 (D1 Tryz.f92.body) (Ext.lit .normal [(0,.sl false 6 (List.map Q5.c p0)),(2,.nilsl)] []) (g92 p0) (fun _=>Ext.of .ret [(2,.ref 7 0 ([]++p0).length)] [] [BT.of 7 Q5 6 ([]++p0)] (by rfl)):=by unfold Z9;kernel_rfl
theorem k92 (p0:(List Z4)) {r:Unit} (h:(g92 p0).run=some r):CallC Tryz.prog GG 92 [.sl false 6 (List.map Q5.c p0)] (ofL []) (.ref 7 0 p0.length) (ofL [(7,⟨6,true,List.map Q5.c p0⟩)]):=
 clone_ok (ty:=Q5) (ops0:=T3 Tryz.f92.body) (ops1:=T2 Tryz.f92.body) (yes:=A4 Tryz.f92.body) (rest:=D1 Tryz.f92.body) (t:=33) Q8 (by decide) Tryz.func92 (by kernel_rfl) (by kernel_rfl) (by kernel_rfl) (by kernel_rfl) (by kernel_rfl) (by kernel_rfl) (by kernel_rfl) (by kernel_rfl) (by kernel_rfl) k92y (k92r p0) (by rfl) h
noncomputable def s92 (p0:List Z4):EV.Spec Tryz.prog GG Unit:=⟨92,[.sl false 6 (List.map Q5.c p0)],[],(g92 p0).run,fun _=>.ref 7 0 p0.length,fun _=>[(7,⟨6,true,List.map Q5.c p0⟩)],[7],fun _ p hp _=>by
 rw[List.mem_singleton.1 hp];exact Q5.data _,fun _ h=>k92 p0 h⟩
noncomputable def g36 (p0:Y7):TT ((Unit)⊕(Unit)):=
 .view 2002 (s34_1 p0.fList.fControlling p0.fList.fLocals p0.fList.fRemotes p0.fList.fPairs p0.fTie p0.fNow p0.fNext p0.fSerial p0.fChosen p0.fQueue p0.fNamed p0.fChecks) [] fun r515=>
 .br 0 (!r515)
 (.done (.inl ()))
 (.call 4007 (s77 p0.fList.fLocals) [] [(7,500053)] fun r516=>
  .call 4011 (s77 p0.fList.fRemotes) [] [(7,500054)] fun r517=>
  .call 4015 (s89 p0.fList.fPairs) [] [(7,500055)] fun r518=>
  .call 5006 (s90 p0.fQueue) [] [(7,500056)] fun r519=>
  .call 5009 (s91 p0.fNamed) [] [(7,500057)] fun r520=>
  .call 5012 (s92 p0.fChecks) [] [(7,500058)] fun r521=>
  .done (.inr ()))
noncomputable def s36 (p0:Y7):EV.Spec Tryz.prog GG ((Unit)⊕(Unit)):=.ofFnB 36 [500053,500054,500055,500056,500057,500058] Q8 Tryz.func36 rfl (fun r=>by cases r<;>rfl) (show FnB Tryz.prog GG [0,1,2,3,4,10] Tryz.f36 [.agg [.bool p0.fList.fControlling,.sl false 8 (List.map Q0.c p0.fList.fLocals),.sl false 8 (List.map Q0.c p0.fList.fRemotes),.sl false 4 (List.map Q2.c p0.fList.fPairs),.i p0.fTie,.i p0.fNow,.i p0.fNext,.i p0.fSerial,.i p0.fChosen,.sl false 1 (List.map Z1.c p0.fQueue),.sl false 1 (List.map Z0.c p0.fNamed),.sl false 6 (List.map Q5.c p0.fChecks)]] (Ext.of .normal (W0 [.agg [.bool p0.fList.fControlling,.sl false 8 (List.map Q0.c p0.fList.fLocals),.sl false 8 (List.map Q0.c p0.fList.fRemotes),.sl false 4 (List.map Q2.c p0.fList.fPairs),.i p0.fTie,.i p0.fNow,.i p0.fNext,.i p0.fSerial,.i p0.fChosen,.sl false 1 (List.map Z1.c p0.fQueue),.sl false 1 (List.map Z0.c p0.fNamed),.sl false 6 (List.map Q5.c p0.fChecks)]]) [] [] (by rfl)) (g36 p0) (Sum.elim (fun(r:Unit)=>.tup [.nilp,.i 111]) (fun(r:Unit)=>.tup [.ptr 7 0 0,.i 0])) (Sum.elim (fun(r:Unit)=>Ext.of .normal [] [] [] (by rfl)) (fun(r:Unit)=>Ext.of .normal [] [(7,⟨13,true,[[.bool p0.fList.fControlling,.ref 500053 0 p0.fList.fLocals.length,.ref 500054 0 p0.fList.fRemotes.length,.ref 500055 0 p0.fList.fPairs.length,.i p0.fTie,.i p0.fNow,.i p0.fNext,.i p0.fSerial,.i p0.fChosen,.ref 500056 0 p0.fQueue.length,.ref 500057 0 p0.fNamed.length,.ref 500058 0 p0.fChecks.length,.nilsl]]⟩)] [BT.of 500053 Q0 8 p0.fList.fLocals true,BT.of 500054 Q0 8 p0.fList.fRemotes true,BT.of 500055 Q2 4 p0.fList.fPairs true,BT.of 500056 Z1 1 p0.fQueue true,BT.of 500057 Z0 1 p0.fNamed true,BT.of 500058 Q5 6 p0.fChecks true] (by rfl))) by unfold FnB;kernel_rfl)
noncomputable def s37 (p0:Bool) (p1 p2:List Q3) (p3:List Q9) (p4 p5 p6 p7 p8:Int) (p9:List Int) (p10:List Bool) (p11:List Z4):EV.Spec Tryz.prog GG (Bool):=.ofFn 37 Q8 Tryz.func37 (show FnD Tryz.prog GG [0,2,4,18] Tryz.f37 [.snap [.bool p0,.sl false 8 (List.map Q0.c p1),.sl false 8 (List.map Q0.c p2),.sl false 4 (List.map Q2.c p3),.i p4,.i p5,.i p6,.i p7,.i p8,.sl false 1 (List.map Z1.c p9),.sl false 1 (List.map Z0.c p10),.sl false 6 (List.map Q5.c p11),.nilsl]] (
 .cnd 1 [18]
 (.br 1008 (decide ((0:Int)≤p8))
  (.done true)
  (.done (p7==1099511627776)))
 (fun(c529:Bool)=>[.bool c529]) fun c529=>
 .br 0 c529
 (.done false)
 (.call 3006 (s93 (Y8.mk p0 p1 p2 p3)) [] [] fun r530=>
  .cnd 4 [2]
  (.br 4009 (decide ((0:Int) < (Y5 Z1 p9)))
   (.done true)
   (.done (r530.2==0)))
  (fun(c531:Bool)=>[.bool c531]) fun c531=>
  .done c531):TT (Bool)) (fun r=>.bool r) by unfold FnD;kernel_rfl)
noncomputable def s38 (p0:List Int):EV.Spec Tryz.prog GG (Int):=.ofFn 38 Q8 Tryz.func38 (show FnD Tryz.prog GG [0,2,3,4,7,15] Tryz.f38 [.sl false 1 (List.map Z1.c p0)] (
 .br 0 (decide ((Y5 Z1 p0) < 1))
 (.fail)
 (.row 3002 Z1 p0 0 true fun x534=>
  .bind 1
  (.lp (fun(l537:Int×Int)=>Ext.lit .normal [(0,.sl false 1 (List.map Z1.c p0)),(2,.i 0),(3,.i l537.1),(4,.i l537.2)] [])
   (fun l537=>
    .br 0 (decide (l537.2 < (Y5 Z1 p0)))
    (.row 7004 Z1 p0 l537.2.toNat (decide (0≤l537.2)) fun x538=>
     .done (.inl ((if x538 < l537.1 then x538 else l537.1),(Q7 (l537.2+1)))))
    (.done (.inr l537.1)))
   (x534,1))
  (fun(e539:Int)=>Ext.lit (.exit 0) [(2,.i 0),(3,.i e539)] [])
  (fun e539=>
   .done e539)):TT (Int)) (fun r=>.int .i64 r) by unfold FnD;kernel_rfl)
noncomputable def s11 (p0:Y7):EV.Spec Tryz.prog GG (Int×Int):=.ofFn 11 Q8 Tryz.func11 (show FnD Tryz.prog GG [0,1,2,3,4,5,6,8,15,21,22,23,24,34,45] Tryz.f11 [.agg [.bool p0.fList.fControlling,.sl false 8 (List.map Q0.c p0.fList.fLocals),.sl false 8 (List.map Q0.c p0.fList.fRemotes),.sl false 4 (List.map Q2.c p0.fList.fPairs),.i p0.fTie,.i p0.fNow,.i p0.fNext,.i p0.fSerial,.i p0.fChosen,.sl false 1 (List.map Z1.c p0.fQueue),.sl false 1 (List.map Z0.c p0.fNamed),.sl false 6 (List.map Q5.c p0.fChecks)]] (
 .call2 1002 (s36 p0) [] [(7,500059),(500053,500060),(500054,500061),(500055,500062),(500056,500063),(500057,500064),(500058,500065)] (fun r522=>
  .tt (.done (0,111)))
 (fun r523=>
  .ff (.gh 1 (.virt 600067 6 1) (.bind 0
  (.lp (fun(l526:(List Int)×Int)=>Ext.of .normal [(2,.i 0),(3,.i 0),(4,.ptr 500059 0 0),(6,.ref 600067 0 l526.1.length),(21,.ref 500065 0 p0.fChecks.length),(22,.i (p0.fChecks.length:Int)),(23,.i l526.2)] [(500059,⟨13,true,[[.bool p0.fList.fControlling,.ref 500060 0 p0.fList.fLocals.length,.ref 500061 0 p0.fList.fRemotes.length,.ref 500062 0 p0.fList.fPairs.length,.i p0.fTie,.i p0.fNow,.i p0.fNext,.i p0.fSerial,.i p0.fChosen,.ref 500063 0 p0.fQueue.length,.ref 500064 0 p0.fNamed.length,.ref 500065 0 p0.fChecks.length,.nilsl]]⟩)] [BT.of 500060 Q0 8 p0.fList.fLocals true,BT.of 500061 Q0 8 p0.fList.fRemotes true,BT.of 500062 Q2 4 p0.fList.fPairs true,BT.of 500063 Z1 1 p0.fQueue true,BT.of 500064 Z0 1 p0.fNamed true,BT.of 500065 Q5 6 p0.fChecks true,BT.of 600067 Z1 1 l526.1 true] (by rfl))
   (fun l526=>
    .br 0 (decide (l526.2 < (p0.fChecks.length:Int)))
    (.chk 7001 (decide (0≤l526.2)&&decide (l526.2 < (p0.fChecks.length:Int))) (.row 7002 Q5 p0.fChecks (0+l526.2.toNat) true fun x527=>
     .app 8005 Z1 l526.1 [x527.fDue] 8 false (by intro h;cases h) (.gh 0 (.drop [600067]) (.gh 0 (.ren 31 600067) (.done (.inl ((l526.1++[x527.fDue]),(Q7 (l526.2+1)))))))))
    (.done (.inr l526.1)))
   ([],0))
  (fun(e528:(List Int))=>Ext.of (.exit 0) [(2,.i 0),(3,.i 0),(4,.ptr 500059 0 0),(6,.ref 600067 0 e528.length)] [(500059,⟨13,true,[[.bool p0.fList.fControlling,.ref 500060 0 p0.fList.fLocals.length,.ref 500061 0 p0.fList.fRemotes.length,.ref 500062 0 p0.fList.fPairs.length,.i p0.fTie,.i p0.fNow,.i p0.fNext,.i p0.fSerial,.i p0.fChosen,.ref 500063 0 p0.fQueue.length,.ref 500064 0 p0.fNamed.length,.ref 500065 0 p0.fChecks.length,.nilsl]]⟩)] [BT.of 500060 Q0 8 p0.fList.fLocals true,BT.of 500061 Q0 8 p0.fList.fRemotes true,BT.of 500062 Q2 4 p0.fList.fPairs true,BT.of 500063 Z1 1 p0.fQueue true,BT.of 500064 Z0 1 p0.fNamed true,BT.of 500065 Q5 6 p0.fChecks true,BT.of 600067 Z1 1 e528 true] (by rfl))
  (fun e528=>
   .view 10002 (s37 p0.fList.fControlling p0.fList.fLocals p0.fList.fRemotes p0.fList.fPairs p0.fTie p0.fNow p0.fNext p0.fSerial p0.fChosen p0.fQueue p0.fNamed p0.fChecks) [(VwW.of 500060 Q0 p0.fList.fLocals),(VwW.of 500061 Q0 p0.fList.fRemotes),(VwW.of 500062 Q2 p0.fList.fPairs),(VwW.of 500063 Z1 p0.fQueue),(VwW.of 500064 Z0 p0.fNamed),(VwW.of 500065 Q5 p0.fChecks)] fun r532=>
   .bind 0
   (.br 0 r532
    (.app 11008 Z1 e528 [p0.fNext] 8 false (by intro h;cases h) (.gh 0 (.ren 42 600068) (.done (e528++[p0.fNext]))))
    (.gh 0 (.ren 600067 600068) (.done e528)))
   (fun(e533:(List Int))=>Ext.of .normal [(2,.i 0),(3,.i 0),(4,.ptr 500059 0 0),(6,.ref 600068 0 e533.length)] [(500059,⟨13,true,[[.bool p0.fList.fControlling,.ref 500060 0 p0.fList.fLocals.length,.ref 500061 0 p0.fList.fRemotes.length,.ref 500062 0 p0.fList.fPairs.length,.i p0.fTie,.i p0.fNow,.i p0.fNext,.i p0.fSerial,.i p0.fChosen,.ref 500063 0 p0.fQueue.length,.ref 500064 0 p0.fNamed.length,.ref 500065 0 p0.fChecks.length,.nilsl]]⟩)] [BT.of 500060 Q0 8 p0.fList.fLocals true,BT.of 500061 Q0 8 p0.fList.fRemotes true,BT.of 500062 Q2 4 p0.fList.fPairs true,BT.of 500063 Z1 1 p0.fQueue true,BT.of 500064 Z0 1 p0.fNamed true,BT.of 500065 Q5 6 p0.fChecks true,BT.of 600068 Z1 1 e533 true] (by rfl))
   (fun e533=>
    .br 0 ((e533.length:Int)==0)
    (.done (0,4))
    (.view 14002 (s38 e533) [(VwW.of 600068 Z1 e533)] fun r540=>
     .done ((if p0.fNow > r540 then p0.fNow else r540),0))))))):TT (Int×Int)) (fun r=>.tup [.int .i64 r.1,.int .i64 r.2]) by unfold FnD;kernel_rfl)
noncomputable def s13 (p0:Y7):EV.Spec Tryz.prog GG (Int):=.ofFn 13 Q8 Tryz.func13 (show FnD Tryz.prog GG [0,1,2,3,9] Tryz.f13 [.agg [.bool p0.fList.fControlling,.sl false 8 (List.map Q0.c p0.fList.fLocals),.sl false 8 (List.map Q0.c p0.fList.fRemotes),.sl false 4 (List.map Q2.c p0.fList.fPairs),.i p0.fTie,.i p0.fNow,.i p0.fNext,.i p0.fSerial,.i p0.fChosen,.sl false 1 (List.map Z1.c p0.fQueue),.sl false 1 (List.map Z0.c p0.fNamed),.sl false 6 (List.map Q5.c p0.fChecks)]] (
 .view 2002 (s34_1 p0.fList.fControlling p0.fList.fLocals p0.fList.fRemotes p0.fList.fPairs p0.fTie p0.fNow p0.fNext p0.fSerial p0.fChosen p0.fQueue p0.fNamed p0.fChecks) [] fun r541=>
 .br 0 (!r541)
 (.done 111)
 (.done 0):TT (Int)) (fun r=>.int .i64 r) by unfold FnD;kernel_rfl)
noncomputable def s42 (p0:Q9):EV.Spec Tryz.prog GG (Bool):=.ofFn 42 Q8 Tryz.func42 (show FnD Tryz.prog GG [0,1,2] Tryz.f42 [.agg (Q2.c p0)] (
 .done (p0.fState==3):TT (Bool)) (fun r=>.bool r) by unfold FnD;kernel_rfl)
noncomputable def s98 (p0:List Q9):EV.Spec Tryz.prog GG (Int):=.ofFn 98 Q8 Tryz.func98 (show FnD Tryz.prog GG [0,1,4,5,7,8,9,16] Tryz.f98 [.sl false 4 (List.map Q2.c p0),.fn 42 [] []] (
 .bind2 1
 (.lp (fun(l547:Int)=>Ext.lit .normal [(0,.sl false 4 (List.map Q2.c p0)),(1,.fn 42 [] []),(4,.i 0),(7,.i (Y5 Q2 p0)),(8,.i l547)] [])
  (fun l547=>
   .br 0 (decide (l547 < (Y5 Q2 p0)))
   (.row 4004 Q2 p0 l547.toNat (decide (0≤l547)) fun x548=>
    .call 4006 (s42 x548) [] [] fun r549=>
    .br 0 r549
    (.done (.inr (.inl l547)))
    (.done (.inl (Q7 (l547+1)))))
   (.done (.inr (.inr ()))))
  0)
 (fun(e550:Int)=>Ext.lit .ret [(4,.i e550)] [])
 (fun(e551:Unit)=>Ext.lit (.exit 0) [(4,.i 0)] [])
 (fun e550=>
  .done e550)
 (fun e551=>
  .done (-1)):TT (Int)) (fun r=>.int .i64 r) by unfold FnD;kernel_rfl)
noncomputable def s41 (p0:List Q9):EV.Spec Tryz.prog GG (Int):=.ofFn 41 Q8 Tryz.func41 (show FnD Tryz.prog GG [0,1,4] Tryz.f41 [.sl false 4 (List.map Q2.c p0),.fn 42 [] []] (
 .call 1003 (s98 p0) [] [] fun r552=>
 .done r552:TT (Int)) (fun r=>.int .i64 r) by unfold FnD;kernel_rfl)
noncomputable def s43 (p0:Q9):EV.Spec Tryz.prog GG (Bool):=.ofFn 43 Q8 Tryz.func43 (show FnD Tryz.prog GG [0,1,2] Tryz.f43 [.agg (Q2.c p0)] (
 .done (p0.fState != 4):TT (Bool)) (fun r=>.bool r) by unfold FnD;kernel_rfl)
noncomputable def s98_1 (p0:List Q9):EV.Spec Tryz.prog GG (Int):=.ofFn 98 Q8 Tryz.func98 (show FnD Tryz.prog GG [0,1,4,5,7,8,9,16] Tryz.f98 [.sl false 4 (List.map Q2.c p0),.fn 43 [] []] (
 .bind2 1
 (.lp (fun(l557:Int)=>Ext.lit .normal [(0,.sl false 4 (List.map Q2.c p0)),(1,.fn 43 [] []),(4,.i 0),(7,.i (Y5 Q2 p0)),(8,.i l557)] [])
  (fun l557=>
   .br 0 (decide (l557 < (Y5 Q2 p0)))
   (.row 4004 Q2 p0 l557.toNat (decide (0≤l557)) fun x558=>
    .call 4006 (s43 x558) [] [] fun r559=>
    .br 0 r559
    (.done (.inr (.inl l557)))
    (.done (.inl (Q7 (l557+1)))))
   (.done (.inr (.inr ()))))
  0)
 (fun(e560:Int)=>Ext.lit .ret [(4,.i e560)] [])
 (fun(e561:Unit)=>Ext.lit (.exit 0) [(4,.i 0)] [])
 (fun e560=>
  .done e560)
 (fun e561=>
  .done (-1)):TT (Int)) (fun r=>.int .i64 r) by unfold FnD;kernel_rfl)
noncomputable def s41_1 (p0:List Q9):EV.Spec Tryz.prog GG (Int):=.ofFn 41 Q8 Tryz.func41 (show FnD Tryz.prog GG [0,1,4] Tryz.f41 [.sl false 4 (List.map Q2.c p0),.fn 43 [] []] (
 .call 1003 (s98_1 p0) [] [] fun r562=>
 .done r562:TT (Int)) (fun r=>.int .i64 r) by unfold FnD;kernel_rfl)
noncomputable def s14 (p0:Y7):EV.Spec Tryz.prog GG (Int×Int):=.ofFn 14 Q8 Tryz.func14 (show FnD Tryz.prog GG [0,1,2,3,4,5,12,14,21,30] Tryz.f14 [.agg [.bool p0.fList.fControlling,.sl false 8 (List.map Q0.c p0.fList.fLocals),.sl false 8 (List.map Q0.c p0.fList.fRemotes),.sl false 4 (List.map Q2.c p0.fList.fPairs),.i p0.fTie,.i p0.fNow,.i p0.fNext,.i p0.fSerial,.i p0.fChosen,.sl false 1 (List.map Z1.c p0.fQueue),.sl false 1 (List.map Z0.c p0.fNamed),.sl false 6 (List.map Q5.c p0.fChecks)]] (
 .call2 1002 (s36 p0) [] [(7,500069),(500053,500070),(500054,500071),(500055,500072),(500056,500073),(500057,500074),(500058,500075)] (fun r542=>
  .tt (.done (0,111)))
 (fun r543=>
  .ff (.br 0 (decide ((0:Int)≤p0.fChosen))
  (.done (3,0))
  (.view 6007 (s41 p0.fList.fPairs) [(VwW.of 500072 Q2 p0.fList.fPairs)] fun r544=>
   .br 0 (decide ((0:Int)≤r544))
   (.done (2,0))
   (.cnd 8 [30]
    (.view 8007 (s41_1 p0.fList.fPairs) [(VwW.of 500072 Q2 p0.fList.fPairs)] fun r545=>
     .br 8010 (decide (r545 < 0))
     (.done ((Q7 ((p0.fQueue.length:Int)+(p0.fChecks.length:Int)))==0))
     (.done false))
    (fun(c546:Bool)=>[.bool c546]) fun c546=>
    .br 0 c546
    (.done (4,0))
    (.done (1,0)))))):TT (Int×Int)) (fun r=>.tup [.int .i64 r.1,.int .i64 r.2]) by unfold FnD;kernel_rfl)
noncomputable def g250 (p0:ByteArray):TT (Bool):=
 .cnd 1 [2]
 (.br 1005 ((p0.size:Int)==4)
  (.done true)
  (.done ((p0.size:Int)==16)))
 (fun(c547:Bool)=>[.bool c547]) fun c547=>
 .done c547
noncomputable def s250 (p0:ByteArray):EV.Spec Tryz.prog GG (Bool):=.ofFn 250 Q8 Tryz.func250 (show FnD Tryz.prog GG [0,2] Tryz.f250 [.str p0] (g250 p0) (fun r=>.bool r) by unfold FnD;kernel_rfl)
noncomputable def g213 (p0:Z2):TT (Bool):=
 .cnd 1 [2]
 (.call 1003 (s250 p0.fHost) [] [] fun r548=>
  .br 1005 r548
  (.br 1010 (decide ((0:Int)≤p0.fPort))
   (.done (decide (p0.fPort≤65535)))
   (.done false))
  (.done false))
 (fun(c549:Bool)=>[.bool c549]) fun c549=>
 .done c549
noncomputable def s213 (p0:Z2):EV.Spec Tryz.prog GG (Bool):=.ofFn 213 Q8 Tryz.func213 (show FnD Tryz.prog GG [0,1,2] Tryz.f213 [.agg [.str p0.fHost,.i p0.fPort]] (g213 p0) (fun r=>.bool r) by unfold FnD;kernel_rfl)
noncomputable def g137 (p0:Z2):TT (Bool):=
 .cnd 1 [2]
 (.call 1002 (s213 p0) [] [] fun r550=>
  .br 1004 r550
  (.done (decide ((1:Int)≤p0.fPort)))
  (.done false))
 (fun(c551:Bool)=>[.bool c551]) fun c551=>
 .done c551
noncomputable def s137 (p0:Z2):EV.Spec Tryz.prog GG (Bool):=.ofFn 137 Q8 Tryz.func137 (show FnD Tryz.prog GG [0,1,2] Tryz.f137 [.agg [.str p0.fHost,.i p0.fPort]] (g137 p0) (fun r=>.bool r) by unfold FnD;kernel_rfl)
noncomputable def g286 (p0:Int):TT (ByteArray):=
 .br 0 (decide (p0 < 10))
 (.chk 2004 ((decide (0≤(Q7 (p0+1)))&&decide ((Q7 (p0+1))≤(36:Int)))&&(decide (0≤p0)&&decide (p0≤((Q7 (p0+1)).toNat:Int)))) (.done ((bs [48,49,50,51,52,53,54,55,56,57,97,98,99,100,101,102,103,104,105,106,107,108,109,110,111,112,113,114,115,116,117,118,119,120,121,122]).extract p0.toNat ((Q7 (p0+1)).toNat))))
 (.chk 3006 ((decide (0≤(Q7 ((Q7 (p0 * 2))+2)))&&decide ((Q7 ((Q7 (p0 * 2))+2))≤(200:Int)))&&(decide (0≤(Q7 (p0 * 2)))&&decide ((Q7 (p0 * 2))≤((Q7 ((Q7 (p0 * 2))+2)).toNat:Int)))) (.done ((bs [48,48,48,49,48,50,48,51,48,52,48,53,48,54,48,55,48,56,48,57,49,48,49,49,49,50,49,51,49,52,49,53,49,54,49,55,49,56,49,57,50,48,50,49,50,50,50,51,50,52,50,53,50,54,50,55,50,56,50,57,51,48,51,49,51,50,51,51,51,52,51,53,51,54,51,55,51,56,51,57,52,48,52,49,52,50,52,51,52,52,52,53,52,54,52,55,52,56,52,57,53,48,53,49,53,50,53,51,53,52,53,53,53,54,53,55,53,56,53,57,54,48,54,49,54,50,54,51,54,52,54,53,54,54,54,55,54,56,54,57,55,48,55,49,55,50,55,51,55,52,55,53,55,54,55,55,55,56,55,57,56,48,56,49,56,50,56,51,56,52,56,53,56,54,56,55,56,56,56,57,57,48,57,49,57,50,57,51,57,52,57,53,57,54,57,55,57,56,57,57]).extract ((Q7 (p0 * 2)).toNat) ((Q7 ((Q7 (p0 * 2))+2)).toNat))))
noncomputable def s286 (p0:Int):EV.Spec Tryz.prog GG (ByteArray):=.ofFn 286 Q8 Tryz.func286 (show FnD Tryz.prog GG [0,2,4] Tryz.f286 [.i p0] (g286 p0) (fun r=>.str r) by unfold FnD;kernel_rfl)
noncomputable def g273 (p0 p1:Int):TT (ByteArray):=
 .br 0 (p1==10)
 (.cnd 2 [17]
  (.br 2004 (decide ((0:Int)≤p0))
   (.done (decide (p0 < 100)))
   (.done false))
  (fun(c555:Bool)=>[.bool c555]) fun c555=>
  .br 0 c555
  (.call 3002 (s286 p0) [] [] fun r556=>
   .done r556)
  (.bind 0
   (.br 0 (decide (p0 < 0))
    (.done (Z6 (0 - (Z6 p0))))
    (.done (Z6 p0)))
   (fun(e557:Int)=>Ext.lit .normal [(0,.i p0),(1,.i p1),(4,.str ByteArray.empty),(5,.ptr 5 0 0),(6,.int .u64 e557)] [(5,⟨24,true,[[.int .u8 0,.int .u8 0,.int .u8 0,.int .u8 0,.int .u8 0,.int .u8 0,.int .u8 0,.int .u8 0,.int .u8 0,.int .u8 0,.int .u8 0,.int .u8 0,.int .u8 0,.int .u8 0,.int .u8 0,.int .u8 0,.int .u8 0,.int .u8 0,.int .u8 0,.int .u8 0,.int .u8 0,.int .u8 0,.int .u8 0,.int .u8 0]]⟩)])
   (fun e557=>
    .fail)))
 (.fail)
noncomputable def s273 (p0 p1:Int):EV.Spec Tryz.prog GG (ByteArray):=.ofFn 273 Q8 Tryz.func273 (show FnD Tryz.prog GG [0,1,4,5,6,7,9,11,17,23,34] Tryz.f273 [.i p0,.i p1] (g273 p0 p1) (fun r=>.str r) by unfold FnD;kernel_rfl)
noncomputable def g256 (p0:Int):TT (ByteArray):=
 .call 1002 (s273 p0 10) [] [] fun r558=>
 .done r558
noncomputable def s256 (p0:Int):EV.Spec Tryz.prog GG (ByteArray):=.ofFn 256 Q8 Tryz.func256 (show FnD Tryz.prog GG [0,2] Tryz.f256 [.i p0] (g256 p0) (fun r=>.str r) by unfold FnD;kernel_rfl)
noncomputable def g218 (p0:Int):TT (ByteArray):=
 .call 1002 (s256 p0) [] [] fun r559=>
 .done r559
noncomputable def s218 (p0:Int):EV.Spec Tryz.prog GG (ByteArray):=.ofFn 218 Q8 Tryz.func218 (show FnD Tryz.prog GG [0,2] Tryz.f218 [.i p0] (g218 p0) (fun r=>.str r) by unfold FnD;kernel_rfl)
noncomputable def g219 (p0:ByteArray):TT (ByteArray):=
 .opr 1004 (Rule.makeD (ty:=H2) (t:=73) (e:=5) (zv:=.int .u8 0) (zc:=.int .u8 0) (0:Int) (.const (.int .i64 0)) (.tmp 7) 8 0 (Q7 ((2:Int) * (p0.size:Int))) 1 (by kernel_rfl) (by kernel_rfl) (by kernel_rfl) rfl ⟨rfl,rfl,rfl⟩ (fun _ _=>by constructor)) fun _=>
 .gh 1 (.ren 8 600077) (.bind 0
 (.lp (fun(l562:(List Int)×Int)=>Ext.of .normal [(0,.str p0),(2,.str ByteArray.empty),(3,.ref 600077 0 l562.1.length),(4,.i l562.2)] [] [BT.of 600077 H2 1 l562.1 true] (by rfl))
  (fun l562=>
   .br 0 (decide (l562.2 < (p0.size:Int)))
   (.chk 5004 (decide (0≤l562.2∧l562.2 < (p0.size:Int))) (.chk 5006 (decide (0≤(wu8 (Int.tdiv (bAt p0 l562.2) 16))∧(wu8 (Int.tdiv (bAt p0 l562.2) 16)) < ((bs [48,49,50,51,52,53,54,55,56,57,97,98,99,100,101,102]).size:Int))) (.chk 5009 (decide (0≤l562.2∧l562.2 < (p0.size:Int))) (.chk 5011 (decide (0≤(Int.tmod (bAt p0 l562.2) 16)∧(Int.tmod (bAt p0 l562.2) 16) < ((bs [48,49,50,51,52,53,54,55,56,57,97,98,99,100,101,102]).size:Int))) (.app 5013 H2 l562.1 [(bAt (bs [48,49,50,51,52,53,54,55,56,57,97,98,99,100,101,102]) (wu8 (Int.tdiv (bAt p0 l562.2) 16))),(bAt (bs [48,49,50,51,52,53,54,55,56,57,97,98,99,100,101,102]) (Int.tmod (bAt p0 l562.2) 16))] 1 false (by intro h;cases h) (.gh 0 (.drop [600077]) (.gh 0 (.ren 27 600077) (.done (.inl ((l562.1++[(bAt (bs [48,49,50,51,52,53,54,55,56,57,97,98,99,100,101,102]) (wu8 (Int.tdiv (bAt p0 l562.2) 16))),(bAt (bs [48,49,50,51,52,53,54,55,56,57,97,98,99,100,101,102]) (Int.tmod (bAt p0 l562.2) 16))]),(Q7 (l562.2+1))))))))))))
   (.done (.inr l562.1)))
  ([],0))
 (fun(e563:(List Int))=>Ext.of (.exit 0) [(2,.str ByteArray.empty),(3,.ref 600077 0 e563.length)] [] [BT.of 600077 H2 1 e563 true] (by rfl))
 (fun e563=>
  .opr 6002 (Rule.textOf (ty:=H2) (s:=73) (t:=9) (e:=5) (.tmp 28) 29 600077 e563 e563.length (by kernel_rfl) (by kernel_rfl) (by kernel_rfl) (by simp) (fun _=>rfl)) fun _=>
  .done (strOfNums e563)))
noncomputable def s219 (p0:ByteArray):EV.Spec Tryz.prog GG (ByteArray):=.ofFn 219 Q8 Tryz.func219 (show FnD Tryz.prog GG [0,2,3,4,12] Tryz.f219 [.str p0] (g219 p0) (fun r=>.str r) by unfold FnD;kernel_rfl)
noncomputable def g150 (p0:Int) (p1 p2:Z2):TT (ByteArray×Int):=
 .cnd 1 [28]
 (.br 1004 (decide (p0 < 1))
  (.done true)
  (.br 1008 (decide ((4:Int) < p0))
   (.done true)
   (.call 1009 (s137 p1) [] [] fun r552=>
    .br 1013 (!r552)
    (.done true)
    (.br 1017 (!((decide (p2.fHost=ByteArray.empty))&&((p2.fPort==0)&&true)))
     (.call 1018 (s137 p2) [] [] fun r553=>
      .done (!r553))
     (.done false)))))
 (fun(c554:Bool)=>[.bool c554]) fun c554=>
 .br 0 c554
 (.done (ByteArray.empty,2))
 (.call 3002 (s218 p0) [] [] fun r560=>
  .chk 3003 (decide (r560.size+(bs [45]).size≤9223372036854775807)) (.call 3006 (s219 p1.fHost) [] [] fun r564=>
  .chk 3007 (decide ((r560++(bs [45])).size+r564.size≤9223372036854775807)) (.chk 3008 (decide (((r560++(bs [45]))++r564).size+(bs [45]).size≤9223372036854775807)) (.call 3011 (s219 p2.fHost) [] [] fun r565=>
  .chk 3012 (decide ((((r560++(bs [45]))++r564)++(bs [45])).size+r565.size≤9223372036854775807)) (.done (((((r560++(bs [45]))++r564)++(bs [45]))++r565),0))))))
noncomputable def s150 (p0:Int) (p1 p2:Z2):EV.Spec Tryz.prog GG (ByteArray×Int):=.ofFn 150 Q8 Tryz.func150 (show FnD Tryz.prog GG [0,1,2,4,5,6,7,28] Tryz.f150 [.i p0,.agg [.str p1.fHost,.i p1.fPort],.agg [.str p2.fHost,.i p2.fPort]] (g150 p0 p1 p2) (fun r=>.tup [.str r.1,.i r.2]) by unfold FnD;kernel_rfl)
noncomputable def g151 (p0 p1 p2:Int):TT (Int×Int):=
 .cnd 1 [30]
 (.br 1004 (decide (p0 < 1))
  (.done true)
  (.br 1008 (decide ((4:Int) < p0))
   (.done true)
   (.br 1012 (decide (p1 < 0))
    (.done true)
    (.br 1016 (decide ((65535:Int) < p1))
     (.done true)
     (.br 1020 (decide (p2 < 1))
      (.done true)
      (.done (decide ((256:Int) < p2))))))))
 (fun(c567:Bool)=>[.bool c567]) fun c567=>
 .br 0 c567
 (.done (0,2))
 (.ceq 3003 p0 [0,1,2,3,4] (fun v=>bif v==0 then .br 0 ((Q7 ((Q7 ((Q7 ((0:Int)+(Q7 ((256:Int) * p1))))+256)) - p2))==0)
   (.done (0,2))
   (.done ((Q7 ((Q7 ((Q7 ((0:Int)+(Q7 ((256:Int) * p1))))+256)) - p2)),0)) else bif v==1 then .br 0 ((Q7 ((Q7 ((Q7 ((2113929216:Int)+(Q7 ((256:Int) * p1))))+256)) - p2))==0)
   (.done (0,2))
   (.done ((Q7 ((Q7 ((Q7 ((2113929216:Int)+(Q7 ((256:Int) * p1))))+256)) - p2)),0)) else bif v==2 then .br 0 ((Q7 ((Q7 ((Q7 ((1845493760:Int)+(Q7 ((256:Int) * p1))))+256)) - p2))==0)
   (.done (0,2))
   (.done ((Q7 ((Q7 ((Q7 ((1845493760:Int)+(Q7 ((256:Int) * p1))))+256)) - p2)),0)) else bif v==3 then .br 0 ((Q7 ((Q7 ((Q7 ((1677721600:Int)+(Q7 ((256:Int) * p1))))+256)) - p2))==0)
   (.done (0,2))
   (.done ((Q7 ((Q7 ((Q7 ((1677721600:Int)+(Q7 ((256:Int) * p1))))+256)) - p2)),0)) else bif v==4 then .br 0 ((Q7 ((Q7 ((Q7 ((0:Int)+(Q7 ((256:Int) * p1))))+256)) - p2))==0)
   (.done (0,2))
   (.done ((Q7 ((Q7 ((Q7 ((0:Int)+(Q7 ((256:Int) * p1))))+256)) - p2)),0)) else .fail))
noncomputable def s151 (p0 p1 p2:Int):EV.Spec Tryz.prog GG (Int×Int):=.ofFn 151 Q8 Tryz.func151 (show FnD Tryz.prog GG [0,1,2,6,7,8,30,42] Tryz.f151 [.i p0,.i p1,.i p2] (g151 p0 p1 p2) (fun r=>.tup [.i r.1,.i r.2]) by unfold FnD;kernel_rfl)
noncomputable def g152 (p0:Q3):TT (Bool):=
 .cnd 1 [44]
 (.br 1005 (decide (p0.fKind < 1))
  (.done true)
  (.br 1010 (decide ((4:Int) < p0.fKind))
   (.done true)
   (.br 1015 (decide (p0.fComponent < 1))
    (.done true)
    (.br 1020 (decide ((256:Int) < p0.fComponent))
     (.done true)
     (.br 1025 (decide (p0.fPriority < 1))
      (.done true)
      (.br 1030 (decide ((2147483647:Int) < p0.fPriority))
       (.done true)
       (.br 1036 (decide ((p0.fFoundation.size:Int) < 1))
        (.done true)
        (.done (decide ((80:Int) < (p0.fFoundation.size:Int)))))))))))
 (fun(c569:Bool)=>[.bool c569]) fun c569=>
 .br 0 c569
 (.done false)
 (.bind2 1
  (.lp (fun(l572:Int)=>Ext.lit .normal [(1,.ptr 1 0 0),(2,.bool false),(3,.i l572)] [(1,⟨8,true,[(Q0.c p0)]⟩)])
   (fun l572=>
    .br 0 (decide (l572 < (p0.fFoundation.size:Int)))
    (.chk 6004 (decide (0≤l572∧l572 < (p0.fFoundation.size:Int))) (.cnd 7 [75]
     (.br 7004 (decide ((48:Int)≤(bAt p0.fFoundation l572)))
      (.br 7009 (!(decide ((bAt p0.fFoundation l572)≤57)))
       (.br 7012 (decide ((97:Int)≤(bAt p0.fFoundation l572)))
        (.br 7018 (!(decide ((bAt p0.fFoundation l572)≤102)))
         (.done ((bAt p0.fFoundation l572) != 45))
         (.done false))
        (.done ((bAt p0.fFoundation l572) != 45)))
       (.done false))
      (.br 7012 (decide ((97:Int)≤(bAt p0.fFoundation l572)))
       (.br 7018 (!(decide ((bAt p0.fFoundation l572)≤102)))
        (.done ((bAt p0.fFoundation l572) != 45))
        (.done false))
       (.done ((bAt p0.fFoundation l572) != 45))))
     (fun(c573:Bool)=>[.bool c573]) fun c573=>
     .br 0 c573
     (.done (.inr (.inl ())))
     (.done (.inl (Q7 (l572+1))))))
    (.done (.inr (.inr ()))))
   0)
  (fun(e574:Unit)=>Ext.lit .ret [(1,.ptr 1 0 0),(2,.bool false)] [(1,⟨8,true,[(Q0.c p0)]⟩)])
  (fun(e575:Unit)=>Ext.lit (.exit 0) [(1,.ptr 1 0 0),(2,.bool false)] [(1,⟨8,true,[(Q0.c p0)]⟩)])
  (fun e574=>
   .done false)
  (fun e575=>
   .cnd 9 [96]
   (.call 9003 (s137 p0.fAddr) [] [] fun r576=>
    .br 9006 (!r576)
    (.done true)
    (.call 9008 (s137 p0.fBase) [] [] fun r577=>
     .br 9012 (!r577)
     (.done true)
     (.done ((p0.fAddr.fHost.size:Int) != (p0.fBase.fHost.size:Int)))))
   (fun(c578:Bool)=>[.bool c578]) fun c578=>
   .br 0 c578
   (.done false)
   (.cnd 11 [2]
    (.br 11007 ((decide (p0.fAddr.fHost=p0.fBase.fHost))&&((p0.fAddr.fPort==p0.fBase.fPort)&&true))
     (.done true)
     (.br 11011 (p0.fKind != 1)
      (.done (p0.fKind != 4))
      (.done false)))
    (fun(c579:Bool)=>[.bool c579]) fun c579=>
    .done c579)))
noncomputable def s152 (p0:Q3):EV.Spec Tryz.prog GG (Bool):=.ofFn 152 Q8 Tryz.func152 (show FnD Tryz.prog GG [0,1,2,3,4,44,49,75,96] Tryz.f152 [.agg (Q0.c p0)] (g152 p0) (fun r=>.bool r) by unfold FnD;kernel_rfl)
noncomputable def g74 (p0:Int) (p1 p2 p3:Z2) (p4 p5:Int):TT (Q3×Int):=
 .call 1004 (s150 p0 p2 p3) [] [] fun r566=>
 .br 0 (r566.2 != 0)
 (.done ((Q3.mk 0 0 0 ByteArray.empty (Z2.mk ByteArray.empty 0) (Z2.mk ByteArray.empty 0)),r566.2))
 (.call 4004 (s151 p0 p4 p5) [] [] fun r568=>
  .br 0 (r568.2 != 0)
  (.done ((Q3.mk 0 0 0 ByteArray.empty (Z2.mk ByteArray.empty 0) (Z2.mk ByteArray.empty 0)),r568.2))
  (.call 8002 (s152 (Q3.mk p0 p5 r568.1 r566.1 p1 p2)) [] [] fun r580=>
   .br 0 (!r580)
   (.done ((Q3.mk 0 0 0 ByteArray.empty (Z2.mk ByteArray.empty 0) (Z2.mk ByteArray.empty 0)),90))
   (.done ((Q3.mk p0 p5 r568.1 r566.1 p1 p2),0))))
noncomputable def s74 (p0:Int) (p1 p2 p3:Z2) (p4 p5:Int):EV.Spec Tryz.prog GG (Q3×Int):=.ofFn 74 Q8 Tryz.func74 (show FnD Tryz.prog GG [0,1,2,3,4,5,7,8,9,12,13,14,15,16,17,26,37,49] Tryz.f74 [.i p0,.agg [.str p1.fHost,.i p1.fPort],.agg [.str p2.fHost,.i p2.fPort],.agg [.str p3.fHost,.i p3.fPort],.i p4,.i p5] (g74 p0 p1 p2 p3 p4 p5) (fun r=>.tup [.agg (Q0.c r.1),.i r.2]) by unfold FnD;kernel_rfl)
noncomputable def s30 (p0:Int):EV.Spec Tryz.prog GG (Q3):=.ofFn 30 Q8 Tryz.func30 (show FnD Tryz.prog GG [0,2,3,4] Tryz.f30 [.int .u8 p0] (
 .call 2004 (s74 1 (Z2.mk (strOfNums [10,0,0,p0]) 1) (Z2.mk (strOfNums [10,0,0,p0]) 1) (Z2.mk ByteArray.empty 0) 1 1) [] [] fun r581=>
 .done r581.1:TT (Q3)) (fun r=>.agg (Q0.c r)) by unfold FnD;kernel_rfl)
noncomputable def s9_1 (p0:Bool) (p1 p2:Int) (p3 p4:List Q3):EV.Spec Tryz.prog GG (Int×Bool×(List Q3)×(List Q3)×(List Q9)×Int×Int×Int×(List Bool)):=.ofFnB 9 [] Q8 Tryz.func9 rfl (fun _=>rfl) (show FnB Tryz.prog GG [0,1,2,3,4,10,11,12,13,14,15,24,41] Tryz.f9 [.ref 1000000 0 p3.length,.ref 1000001 0 p4.length,.bool p0,.i p1,.i p2] (Ext.of .normal (W0 [.ref 1000000 0 p3.length,.ref 1000001 0 p4.length,.bool p0,.i p1,.i p2]) [] [BT.of 1000000 Q0 8 p3 true,BT.of 1000001 Q0 8 p4 true] (by rfl)) (
 .gh 3 (.share (VwW.of 1000000 Q0 p3) 0) (.gh 3 (.share (VwW.of 1000001 Q0 p4) 0) (.call 1004 (s33 p3 p4 p0) [] [] fun r584=>
 .br 0 (r584.2 != 0)
 (.done (r584.2,false,[],[],[],0,0,0,[]))
 (.opr 4008 (Rule.makeD (ty:=Z0) (t:=32) (e:=4) (zv:=.bool false) (zc:=.bool false) false (.tmp 33) (.tmp 33) 34 (Y5 Q2 r584.1.fPairs) (Y5 Q2 r584.1.fPairs) 1 (by kernel_rfl) (by kernel_rfl) (by kernel_rfl) rfl ⟨rfl,rfl,rfl⟩ (fun _ _=>by constructor)) fun _=>
  .gh 7 (.len 34 ((List.replicate (Y5 Q2 r584.1.fPairs).toNat false).length) [(Y5 Q2 r584.1.fPairs).toNat] (by simp)) (.view 6002 (s34 r584.1.fControlling r584.1.fLocals r584.1.fRemotes r584.1.fPairs p1 p2 p2 0 (-1) (List.replicate (Y5 Q2 r584.1.fPairs).toNat false)) [(VwW.of 34 Z0 (List.replicate (Y5 Q2 r584.1.fPairs).toNat false))] fun r585=>
  .br 0 (!r585)
  (.done (2,false,[],[],[],0,0,0,[]))
  (.gh 0 (.share (VwW.of 34 Z0 (List.replicate (Y5 Q2 r584.1.fPairs).toNat false)) 2) (.done (0,r584.1.fControlling,r584.1.fLocals,r584.1.fRemotes,r584.1.fPairs,p1,p2,(-1),(List.replicate (Y5 Q2 r584.1.fPairs).toNat false)))))))):TT (Int×Bool×(List Q3)×(List Q3)×(List Q9)×Int×Int×Int×(List Bool))) (fun(r:Int×Bool×(List Q3)×(List Q3)×(List Q9)×Int×Int×Int×(List Bool))=>.tup [.agg [.bool r.2.1,.sl false 8 (List.map Q0.c r.2.2.1),.sl false 8 (List.map Q0.c r.2.2.2.1),.sl false 4 (List.map Q2.c r.2.2.2.2.1),.i r.2.2.2.2.2.1,.i r.2.2.2.2.2.2.1,.i r.2.2.2.2.2.2.1,.i 0,.i r.2.2.2.2.2.2.2.1,.nilsl,.sl false 1 (List.map Z0.c r.2.2.2.2.2.2.2.2),.nilsl],.i r.1]) (fun(r:Int×Bool×(List Q3)×(List Q3)×(List Q9)×Int×Int×Int×(List Bool))=>Ext.of .normal [] [] [] (by rfl)) by unfold FnB;kernel_rfl)
noncomputable def s27 :EV.Spec Tryz.prog GG (Y7×Int):=.ofFn 27 Q8 Tryz.func27 (show FnD Tryz.prog GG [0,1] Tryz.f27 [] (
 .call 1001 (s30 1) [] [] fun r582=>
 .call 1003 (s30 2) [] [] fun r583=>
 .call 1005 (s9_1 true 9 0 [r582] [r583]) [(1000000,3),(1000001,5)] [] fun r586=>
 .done ((Y7.mk (Y8.mk r586.2.1 r586.2.2.1 r586.2.2.2.1 r586.2.2.2.2.1) r586.2.2.2.2.2.1 r586.2.2.2.2.2.2.1 r586.2.2.2.2.2.2.1 0 r586.2.2.2.2.2.2.2.1 [] r586.2.2.2.2.2.2.2.2 []),r586.1):TT (Y7×Int)) (fun r=>.tup [.agg [.bool r.1.fList.fControlling,.sl false 8 (List.map Q0.c r.1.fList.fLocals),.sl false 8 (List.map Q0.c r.1.fList.fRemotes),.sl false 4 (List.map Q2.c r.1.fList.fPairs),.int .i64 r.1.fTie,.int .i64 r.1.fNow,.int .i64 r.1.fNext,.int .i64 r.1.fSerial,.int .i64 r.1.fChosen,.sl false 1 (List.map Z1.c r.1.fQueue),.sl false 1 (List.map Z0.c r.1.fNamed),.sl false 6 (List.map Q5.c r.1.fChecks)],.int .i64 r.2]) by unfold FnD;kernel_rfl)
noncomputable def s28 :EV.Spec Tryz.prog GG (Y7×Int):=.ofFn 28 Q8 Tryz.func28 (show FnD Tryz.prog GG [0,1] Tryz.f28 [] (
 .call 1001 (s30 2) [] [] fun r587=>
 .call 1003 (s30 1) [] [] fun r588=>
 .call 1005 (s9_1 false 5 0 [r587] [r588]) [(1000000,3),(1000001,5)] [] fun r589=>
 .done ((Y7.mk (Y8.mk r589.2.1 r589.2.2.1 r589.2.2.2.1 r589.2.2.2.2.1) r589.2.2.2.2.2.1 r589.2.2.2.2.2.2.1 r589.2.2.2.2.2.2.1 0 r589.2.2.2.2.2.2.2.1 [] r589.2.2.2.2.2.2.2.2 []),r589.1):TT (Y7×Int)) (fun r=>.tup [.agg [.bool r.1.fList.fControlling,.sl false 8 (List.map Q0.c r.1.fList.fLocals),.sl false 8 (List.map Q0.c r.1.fList.fRemotes),.sl false 4 (List.map Q2.c r.1.fList.fPairs),.int .i64 r.1.fTie,.int .i64 r.1.fNow,.int .i64 r.1.fNext,.int .i64 r.1.fSerial,.int .i64 r.1.fChosen,.sl false 1 (List.map Z1.c r.1.fQueue),.sl false 1 (List.map Z0.c r.1.fNamed),.sl false 6 (List.map Q5.c r.1.fChecks)],.int .i64 r.2]) by unfold FnD;kernel_rfl)
noncomputable def s29 :EV.Spec Tryz.prog GG (U5):=.ofFn 29 Q8 Tryz.func29 (show FnD Tryz.prog GG [0] Tryz.f29 [] (
 .call 1001 (s30 1) [] [] fun r590=>
 .call 1003 (s30 2) [] [] fun r591=>
 .done (U5.mk r590.fAddr r591.fAddr (Y6.mk 1 0 1845494271 true 9 false (Z2.mk ByteArray.empty 0))):TT (U5)) (fun r=>.agg (Y2.c r)) by unfold FnD;kernel_rfl)
noncomputable def s31 (p0 p1:List U5):EV.Spec Tryz.prog GG (Bool):=.ofFn 31 Q8 Tryz.func31 (show FnD Tryz.prog GG [0,1,4,5,10,12,13,14,24] Tryz.f31 [.sl false 12 (List.map Y2.c p0),.sl false 12 (List.map Y2.c p1)] (
 .br 0 ((Y5 Y2 p0) != (Y5 Y2 p1))
 (.done false)
 (.bind2 1
  (.lp (fun(l595:Int)=>Ext.lit .normal [(0,.sl false 12 (List.map Y2.c p0)),(1,.sl false 12 (List.map Y2.c p1)),(4,.bool false),(12,.i (Y5 Y2 p0)),(13,.i l595)] [])
   (fun l595=>
    .br 0 (decide (l595 < (Y5 Y2 p0)))
    (.row 6003 Y2 p0 l595.toNat (decide (0≤l595)) fun x596=>
     .row 6007 Y2 p1 l595.toNat (decide (0≤l595)) fun x597=>
     .br 0 (!((decide (x596.fFrom.fHost=x597.fFrom.fHost))&&((x596.fFrom.fPort==x597.fFrom.fPort)&&((decide (x596.fTo.fHost=x597.fTo.fHost))&&((x596.fTo.fPort==x597.fTo.fPort)&&((x596.fProbe.fKind==x597.fProbe.fKind)&&((x596.fProbe.fId==x597.fProbe.fId)&&((x596.fProbe.fPriority==x597.fProbe.fPriority)&&((x596.fProbe.fControlling==x597.fProbe.fControlling)&&((x596.fProbe.fTie==x597.fProbe.fTie)&&((x596.fProbe.fUse==x597.fProbe.fUse)&&((decide (x596.fProbe.fSeen.fHost=x597.fProbe.fSeen.fHost))&&((x596.fProbe.fSeen.fPort==x597.fProbe.fSeen.fPort)&&true)))))))))))))
     (.done (.inr (.inl ())))
     (.done (.inl (Q7 (l595+1)))))
    (.done (.inr (.inr ()))))
   0)
  (fun(e598:Unit)=>Ext.lit .ret [(4,.bool false)] [])
  (fun(e599:Unit)=>Ext.lit (.exit 0) [(4,.bool false)] [])
  (fun e598=>
   .done false)
  (fun e599=>
   .done true)):TT (Bool)) (fun r=>.bool r) by unfold FnD;kernel_rfl)
noncomputable def s32 (p0 p1:List Int):EV.Spec Tryz.prog GG (Bool):=.ofFn 32 Q8 Tryz.func32 (show FnD Tryz.prog GG [0,1,4,5,10,12,13,14,24] Tryz.f32 [.sl false 1 (List.map Z1.c p0),.sl false 1 (List.map Z1.c p1)] (
 .br 0 ((Y5 Z1 p0) != (Y5 Z1 p1))
 (.done false)
 (.bind2 1
  (.lp (fun(l603:Int)=>Ext.lit .normal [(0,.sl false 1 (List.map Z1.c p0)),(1,.sl false 1 (List.map Z1.c p1)),(4,.bool false),(12,.i (Y5 Z1 p0)),(13,.i l603)] [])
   (fun l603=>
    .br 0 (decide (l603 < (Y5 Z1 p0)))
    (.row 6003 Z1 p0 l603.toNat (decide (0≤l603)) fun x604=>
     .row 6007 Z1 p1 l603.toNat (decide (0≤l603)) fun x605=>
     .br 0 (x604 != x605)
     (.done (.inr (.inl ())))
     (.done (.inl (Q7 (l603+1)))))
    (.done (.inr (.inr ()))))
   0)
  (fun(e606:Unit)=>Ext.lit .ret [(4,.bool false)] [])
  (fun(e607:Unit)=>Ext.lit (.exit 0) [(4,.bool false)] [])
  (fun e606=>
   .done false)
  (fun e607=>
   .done true)):TT (Bool)) (fun r=>.bool r) by unfold FnD;kernel_rfl)
end Go.Proofs.YtjpahkpfkohfkaaGreatDoor
