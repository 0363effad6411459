/- Guides and contracts, printed by a program.
   The attributes of octets (stun.attributes), collected: a range D7 a function, put together by hand.
   Guides and contracts, printed by a program.
   The message of octets (stun.Decode), where they are one: a function that defers a closure which recovers; nothing panics.
   Guides and contracts, printed by a program. -/
import Derived.Test.YtjpahkpfkohfkaaGreatDoorB8
import Derived.Test.YtjpahkpfkohfkaaGreatDoorB6
import Derived.Test.YtjpahkpfkohfkaaGreatDoorB7
import Derived.Laws.Entries
import Derived.Lib.ByteType
import Derived.KernelRfl
set_option linter.unusedVariables false
set_option linter.unusedSimpArgs false
namespace Go.Proofs.YtjpahkpfkohfkaaGreatDoor
open Go Go.EV
set_option maxRecDepth 100000
structure U0 where
 fS:ByteArray
 fAt:Int
structure SReader1 where
 fReader:U0
structure H8 where
 fClass:Int
 fMethod:Int
 fId:ByteArray
 fAttrs:(List Q4)
noncomputable def g240 (p0:U0):TT (SReader1×Int):=
 .cnd 1 [14]
 (.br 1005 (decide (p0.fAt < 0))
  (.done true)
  (.done (decide ((p0.fS.size:Int) < p0.fAt))))
 (fun(c115:Bool)=>[.bool c115]) fun c115=>
 .br 0 c115
 (.done ((SReader1.mk (U0.mk ByteArray.empty 0)),2))
 (.done ((SReader1.mk p0),0))
noncomputable def s240 (p0:U0):EV.Spec Tryz.prog GG (SReader1×Int):=.ofFn 240 Q8 Tryz.func240 (show FnD Tryz.prog GG [0,1,2,3,14] Tryz.f240 [.agg [.str p0.fS,.i p0.fAt]] (g240 p0) (fun r=>.tup [.agg [.str r.1.fReader.fS,.i r.1.fReader.fAt],.i r.2]) by unfold FnD;kernel_rfl)
noncomputable def g208 (p0:ByteArray):TT (Int):=
 .opr 2002 (Rule.octets (ty:=H2) (s:=9) (t:=73) (e:=5) (.tmp 6) 7 p0 (by kernel_rfl) (by kernel_rfl) (by kernel_rfl) (by kernel_rfl) (fun _=>rfl)) fun _=>
 .bind 1
 (.lp (fun(l120:Int×Int)=>Ext.of .normal [(2,.i 0),(3,.i l120.1),(7,.ref 7 0 ((Z3 p0).length)),(8,.i ((Z3 p0).length:Int)),(9,.i l120.2)] [] [BT.of 7 H2 1 (Z3 p0) true] (by rfl))
  (fun l120=>
   .br 0 (decide (l120.2 < ((Z3 p0).length:Int)))
   (.chk 4001 (decide (0≤l120.2)&&decide (l120.2 < ((Z3 p0).length:Int))) (.row 4002 H2 (Z3 p0) (0+l120.2.toNat) true fun x121=>
    .done (.inl ((bOr .i64 (bShl .i64 l120.1 8) (Q7 x121)),(Q7 (l120.2+1))))))
   (.done (.inr l120.1)))
  (0,0))
 (fun(e122:Int)=>Ext.lit (.exit 0) [(2,.i 0),(3,.i e122)] [])
 (fun e122=>
  .done e122)
noncomputable def s208 (p0:ByteArray):EV.Spec Tryz.prog GG (Int):=.ofFn 208 Q8 Tryz.func208 (show FnD Tryz.prog GG [0,2,3,5,7,8,9,10] Tryz.f208 [.str p0] (g208 p0) (fun r=>.int .i64 r) by unfold FnD;kernel_rfl)
noncomputable def g207 (p0:U0) (p1 p2 p3:Int):TT (Int×U0×Int):=
 .call 1002 (s240 p0) [] [] fun r116=>
 .br 0 (r116.2 != 0)
 (.done (0,(U0.mk ByteArray.empty 0),r116.2))
 (.cnd 4 [25]
  (.br 4005 (decide (p1 < p2))
   (.done true)
   (.done (decide (p3 < p1))))
  (fun(c117:Bool)=>[.bool c117]) fun c117=>
  .br 0 c117
  (.done (0,(U0.mk ByteArray.empty 0),2))
  (.br 0 (decide ((Q7 ((r116.1.fReader.fS.size:Int) - r116.1.fReader.fAt)) < p1))
   (.done (0,(U0.mk ByteArray.empty 0),7))
   (.chk 8013 ((decide (0≤(Q7 (r116.1.fReader.fAt+p1)))&&decide ((Q7 (r116.1.fReader.fAt+p1))≤(r116.1.fReader.fS.size:Int)))&&(decide (0≤r116.1.fReader.fAt)&&decide (r116.1.fReader.fAt≤((Q7 (r116.1.fReader.fAt+p1)).toNat:Int)))) (.call 8014 (s208 (r116.1.fReader.fS.extract r116.1.fReader.fAt.toNat ((Q7 (r116.1.fReader.fAt+p1)).toNat))) [] [] fun r123=>
    .done (r123,(U0.mk r116.1.fReader.fS (Q7 (r116.1.fReader.fAt+p1))),0)))))
noncomputable def s207 (p0:U0) (p1 p2 p3:Int):EV.Spec Tryz.prog GG (Int×U0×Int):=.ofFn 207 Q8 Tryz.func207 (show FnD Tryz.prog GG [0,1,2,3,4,5,10,11,12,13,19,25,36] Tryz.f207 [.agg [.str p0.fS,.i p0.fAt],.i p1,.i p2,.i p3,.fn 208 [] []] (g207 p0 p1 p2 p3) (fun r=>.tup [.i r.1,.agg [.str r.2.1.fS,.i r.2.1.fAt],.i r.2.2]) by unfold FnD;kernel_rfl)
noncomputable def g129 (p0:U0) (p1:Int):TT (Int×U0×Int):=
 .call 1003 (s207 p0 p1 1 7) [] [] fun r124=>
 .done (r124.1,r124.2.1,r124.2.2)
noncomputable def s129 (p0:U0) (p1:Int):EV.Spec Tryz.prog GG (Int×U0×Int):=.ofFn 129 Q8 Tryz.func129 (show FnD Tryz.prog GG [0,1,2,4,5,6] Tryz.f129 [.agg [.str p0.fS,.i p0.fAt],.i p1] (g129 p0 p1) (fun r=>.tup [.i r.1,.agg [.str r.2.1.fS,.i r.2.1.fAt],.i r.2.2]) by unfold FnD;kernel_rfl)
noncomputable def s242 (p0:ByteArray):EV.Spec Tryz.prog GG (ByteArray):=.ofFn 242 Q8 Tryz.func242 (show FnD Tryz.prog GG [0,2] Tryz.f242 [.str p0] (
 .done p0:TT (ByteArray)) (fun r=>.str r) by unfold FnD;kernel_rfl)
noncomputable def g241 (p0:U0) (p1 p2 p3:Int):TT (ByteArray×U0×Int):=
 .call 1002 (s240 p0) [] [] fun r125=>
 .br 0 (r125.2 != 0)
 (.done (ByteArray.empty,(U0.mk ByteArray.empty 0),r125.2))
 (.cnd 4 [25]
  (.br 4005 (decide (p1 < p2))
   (.done true)
   (.done (decide (p3 < p1))))
  (fun(c126:Bool)=>[.bool c126]) fun c126=>
  .br 0 c126
  (.done (ByteArray.empty,(U0.mk ByteArray.empty 0),2))
  (.br 0 (decide ((Q7 ((r125.1.fReader.fS.size:Int) - r125.1.fReader.fAt)) < p1))
   (.done (ByteArray.empty,(U0.mk ByteArray.empty 0),7))
   (.chk 8013 ((decide (0≤(Q7 (r125.1.fReader.fAt+p1)))&&decide ((Q7 (r125.1.fReader.fAt+p1))≤(r125.1.fReader.fS.size:Int)))&&(decide (0≤r125.1.fReader.fAt)&&decide (r125.1.fReader.fAt≤((Q7 (r125.1.fReader.fAt+p1)).toNat:Int)))) (.call 8014 (s242 (r125.1.fReader.fS.extract r125.1.fReader.fAt.toNat ((Q7 (r125.1.fReader.fAt+p1)).toNat))) [] [] fun r127=>
    .done (r127,(U0.mk r125.1.fReader.fS (Q7 (r125.1.fReader.fAt+p1))),0)))))
noncomputable def s241 (p0:U0) (p1 p2 p3:Int):EV.Spec Tryz.prog GG (ByteArray×U0×Int):=.ofFn 241 Q8 Tryz.func241 (show FnD Tryz.prog GG [0,1,2,3,4,5,10,11,12,13,19,25,36] Tryz.f241 [.agg [.str p0.fS,.i p0.fAt],.i p1,.i p2,.i p3,.fn 242 [] []] (g241 p0 p1 p2 p3) (fun r=>.tup [.str r.1,.agg [.str r.2.1.fS,.i r.2.1.fAt],.i r.2.2]) by unfold FnD;kernel_rfl)
noncomputable def g211 (p0:U0) (p1:Int):TT (ByteArray×U0×Int):=
 .call 1005 (s241 p0 p1 0 (if (0:Int) > p1 then (0:Int) else p1)) [] [] fun r128=>
 .done (r128.1,r128.2.1,r128.2.2)
noncomputable def s211 (p0:U0) (p1:Int):EV.Spec Tryz.prog GG (ByteArray×U0×Int):=.ofFn 211 Q8 Tryz.func211 (show FnD Tryz.prog GG [0,1,2,4,5,6] Tryz.f211 [.agg [.str p0.fS,.i p0.fAt],.i p1] (g211 p0 p1) (fun r=>.tup [.str r.1,.agg [.str r.2.1.fS,.i r.2.1.fAt],.i r.2.2]) by unfold FnD;kernel_rfl)
noncomputable def s130 (p0:Bool):EV.Spec Tryz.prog GG (Unit):=.ofFn 130 Q8 Tryz.func130 (show FnD Tryz.prog GG [0,3] Tryz.f130 [.bool p0] (
 .br 0 (!p0)
 (.fail)
 (.done ()):TT (Unit)) (fun r=>.tup []) by unfold FnD;kernel_rfl)
noncomputable def s244 (p0:ByteArray) (p1:Int):EV.Spec Tryz.prog GG (ByteArray):=.ofFn 244 Q8 Tryz.func244 (show FnD Tryz.prog GG [0,1,4,16] Tryz.f244 [.str p0,.int .u8 p1] (
 .bind 1
 (.lp (fun(l133:ByteArray)=>Ext.lit .normal [(0,.str l133),(1,.int .u8 p1),(4,.str ByteArray.empty)] [])
  (fun l133=>
   .cnd 1 [16]
   (.br 1005 (decide ((0:Int) < (l133.size:Int)))
    (.chk 1009 (decide (0≤(Q7 ((l133.size:Int) - 1))∧(Q7 ((l133.size:Int) - 1)) < (l133.size:Int))) (.done ((bAt l133 (Q7 ((l133.size:Int) - 1)))==p1)))
    (.done false))
   (fun(c134:Bool)=>[.bool c134]) fun c134=>
   .br 0 c134
   (.chk 2005 (decide (0≤(Q7 ((l133.size:Int) - 1)))&&decide ((Q7 ((l133.size:Int) - 1))≤(l133.size:Int))) (.done (.inl (l133.extract 0 ((Q7 ((l133.size:Int) - 1)).toNat)))))
   (.done (.inr l133)))
  p0)
 (fun(e135:ByteArray)=>Ext.lit (.exit 0) [(0,.str e135),(4,.str ByteArray.empty)] [])
 (fun e135=>
  .done e135):TT (ByteArray)) (fun r=>.str r) by unfold FnD;kernel_rfl)
noncomputable def s243 (p0:ByteArray) (p1:Int):EV.Spec Tryz.prog GG (ByteArray):=.ofFn 243 Q8 Tryz.func243 (show FnD Tryz.prog GG [0,1,4,13] Tryz.f243 [.str p0,.int .u8 p1] (
 .bind 1
 (.lp (fun(l139:ByteArray)=>Ext.lit .normal [(0,.str l139),(1,.int .u8 p1),(4,.str ByteArray.empty)] [])
  (fun l139=>
   .cnd 1 [13]
   (.br 1005 (decide ((0:Int) < (l139.size:Int)))
    (.chk 1006 (decide (0≤(0:Int)∧(0:Int) < (l139.size:Int))) (.done ((bAt l139 0)==p1)))
    (.done false))
   (fun(c140:Bool)=>[.bool c140]) fun c140=>
   .br 0 c140
   (.chk 2002 (decide (0≤(1:Int))&&decide ((1:Int)≤(l139.size:Int))) (.done (.inl (l139.extract 1 l139.size))))
   (.done (.inr l139)))
  p0)
 (fun(e141:ByteArray)=>Ext.lit (.exit 0) [(0,.str e141),(4,.str ByteArray.empty)] [])
 (fun e141=>
  .done e141):TT (ByteArray)) (fun r=>.str r) by unfold FnD;kernel_rfl)
noncomputable def g118 (p0:H8):TT (Int):=
 .cnd 1 [34]
 (.br 1005 (decide (p0.fClass < 0))
  (.done true)
  (.br 1010 (decide ((3:Int) < p0.fClass))
   (.done true)
   (.br 1015 (decide (p0.fMethod < 0))
    (.done true)
    (.br 1020 (decide ((4095:Int) < p0.fMethod))
     (.done true)
     (.br 1026 ((p0.fId.size:Int) != 12)
      (.done true)
      (.done (decide ((30:Int) < (Y5 Q6 p0.fAttrs)))))))))
 (fun(c134:Bool)=>[.bool c134]) fun c134=>
 .br 0 c134
 (.done 80)
 (.bind2 1
  (.lp (fun(l138:Int)=>Ext.lit .normal [(1,.ptr 1 0 0),(2,.i 0),(36,.sl false 2 (List.map Q6.c p0.fAttrs)),(37,.i (Y5 Q6 p0.fAttrs)),(38,.i l138)] [(1,⟨4,true,[[.i p0.fClass,.i p0.fMethod,.str p0.fId,.sl false 2 (List.map Q6.c p0.fAttrs)]]⟩)])
   (fun l138=>
    .br 0 (decide (l138 < (Y5 Q6 p0.fAttrs)))
    (.row 5001 Q6 p0.fAttrs l138.toNat (decide (0≤l138)) fun x139=>
     .cnd 6 [55]
     (.br 6005 (decide (x139.fKind < 0))
      (.done true)
      (.br 6010 (decide ((65535:Int) < x139.fKind))
       (.done true)
       (.done (decide ((763:Int) < (x139.fValue.size:Int))))))
     (fun(c140:Bool)=>[.bool c140]) fun c140=>
     .br 0 c140
     (.done (.inr (.inl ())))
     (.done (.inl (Q7 (l138+1)))))
    (.done (.inr (.inr ()))))
   0)
  (fun(e141:Unit)=>Ext.lit .ret [(1,.ptr 1 0 0),(2,.i 80)] [(1,⟨4,true,[[.i p0.fClass,.i p0.fMethod,.str p0.fId,.sl false 2 (List.map Q6.c p0.fAttrs)]]⟩)])
  (fun(e142:Unit)=>Ext.lit (.exit 0) [(1,.ptr 1 0 0),(2,.i 0)] [(1,⟨4,true,[[.i p0.fClass,.i p0.fMethod,.str p0.fId,.sl false 2 (List.map Q6.c p0.fAttrs)]]⟩)])
  (fun e141=>
   .done 80)
  (fun e142=>
   .call 9003 (s193 p0.fAttrs) [] [] fun r143=>
   .br 0 (decide ((1200:Int) < (Q7 ((20:Int)+r143))))
   (.done 80)
   (.done 0)))
noncomputable def s118 (p0:H8):EV.Spec Tryz.prog GG (Int):=.ofFn 118 Q8 Tryz.func118 (show FnD Tryz.prog GG [0,1,2,4,34,36,37,38,39,55,61] Tryz.f118 [.agg [.i p0.fClass,.i p0.fMethod,.str p0.fId,.sl false 2 (List.map Q6.c p0.fAttrs)]] (g118 p0) (fun r=>.int .i64 r) by unfold FnD;kernel_rfl)
noncomputable def cAt:Code:=Tryz.f210.body.getD .skip
noncomputable def aL:Code:=cB (cB (cR cAt))
noncomputable def aBk:Code:=cB (cL (cR aL))
noncomputable def gAt0 (l:Nat) (s:ByteArray) (out:List Q4):TT (Unit):=
 .done ()
def xsAt0 (l:Nat) (s:ByteArray) (out:List Q4):Ext:=Ext.of .normal [(0,.yld l),(1,.ptr 2000000 0 0)] [(1000002,⟨1,true,[[.ref 1900070 0 out.length]]⟩),(2000000,⟨1,true,[[.str s]]⟩)] [BT.of 1900070 Q6 2 out true] (by rfl)
def xeAt0 (l:Nat) (s:ByteArray) (out:List Q4):(Unit)→Ext:=fun(r:Unit)=>Ext.of .normal [(0,.yld l),(1,.ptr 2000000 0 0),(3,.ptr 3 0 0)] [(3,⟨2,true,[[.str s,.i 0]]⟩),(1000002,⟨1,true,[[.ref 1900070 0 out.length]]⟩),(2000000,⟨1,true,[[.str s]]⟩)] [BT.of 1900070 Q6 2 out true] (by rfl)
theorem kAt0 (l:Nat) (s:ByteArray) (out:List Q4):Z9 Tryz.prog GG [0,1,3] 70 (cL cAt) (xsAt0 l s out) (gAt0 l s out) (xeAt0 l s out):=by unfold Z9;kernel_rfl
noncomputable def gAt1 (l:Nat) (s:ByteArray) (out:List Q4) (S:ByteArray) (a:Int):TT (Unit):=
 .done ()
def xsAt1 (l:Nat) (s:ByteArray) (out:List Q4) (S:ByteArray) (a:Int):Ext:=Ext.of .normal [(0,.yld l),(1,.ptr 2000000 0 0),(3,.ptr 3 0 0)] [(3,⟨2,true,[[.str S,.i a]]⟩),(1000002,⟨1,true,[[.ref 1900070 0 out.length]]⟩),(2000000,⟨1,true,[[.str s]]⟩)] [BT.of 1900070 Q6 2 out true] (by rfl)
def xeAt1 (l:Nat) (s:ByteArray) (out:List Q4) (S:ByteArray) (a:Int):(Unit)→Ext:=fun(r:Unit)=>Ext.of .normal [(0,.yld l),(1,.ptr 2000000 0 0),(3,.ptr 3 0 0),(16,.bool (decide (a < (s.size:Int))))] [(3,⟨2,true,[[.str S,.i a]]⟩),(1000002,⟨1,true,[[.ref 1900070 0 out.length]]⟩),(2000000,⟨1,true,[[.str s]]⟩)] [BT.of 1900070 Q6 2 out true] (by rfl)
theorem kAt1 (l:Nat) (s:ByteArray) (out:List Q4) (S:ByteArray) (a:Int):Z9 Tryz.prog GG [0,1,3,16] 70 (cL (cL aL)) (xsAt1 l s out S a) (gAt1 l s out S a) (xeAt1 l s out S a):=by unfold Z9;kernel_rfl
noncomputable def gAt2 (l:Nat) (s:ByteArray) (out:List Q4) (S:ByteArray) (a:Int):TT (ByteArray×Int×Int×Int):=
 .call 2002 (s129 (U0.mk S a) 2) [] [] fun r144=>
 .done (r144.2.1.fS,r144.2.1.fAt,r144.1,r144.2.2)
def xsAt2 (l:Nat) (s:ByteArray) (out:List Q4) (S:ByteArray) (a:Int):Ext:=Ext.of .normal [(0,.yld l),(1,.ptr 2000000 0 0),(3,.ptr 3 0 0)] [(3,⟨2,true,[[.str S,.i a]]⟩),(1000002,⟨1,true,[[.ref 1900070 0 out.length]]⟩),(2000000,⟨1,true,[[.str s]]⟩)] [BT.of 1900070 Q6 2 out true] (by rfl)
def xeAt2 (l:Nat) (s:ByteArray) (out:List Q4) (S:ByteArray) (a:Int):(ByteArray×Int×Int×Int)→Ext:=fun(r:ByteArray×Int×Int×Int)=>Ext.of .normal [(0,.yld l),(1,.ptr 2000000 0 0),(3,.ptr 3 0 0),(4,.i r.2.2.1),(5,.ptr 5 0 0),(6,.i r.2.2.2)] [(3,⟨2,true,[[.str S,.i a]]⟩),(5,⟨2,true,[[.str r.1,.i r.2.1]]⟩),(1000002,⟨1,true,[[.ref 1900070 0 out.length]]⟩),(2000000,⟨1,true,[[.str s]]⟩)] [BT.of 1900070 Q6 2 out true] (by rfl)
theorem kAt2 (l:Nat) (s:ByteArray) (out:List Q4) (S:ByteArray) (a:Int):Z9 Tryz.prog GG [0,1,3,4,5,6] 70 (cL aBk) (xsAt2 l s out S a) (gAt2 l s out S a) (xeAt2 l s out S a):=by unfold Z9;kernel_rfl
noncomputable def gAt3 (l:Nat) (s:ByteArray) (out:List Q4) (S:ByteArray) (a:Int) (u2:ByteArray×Int×Int×Int):TT (Unit):=
 .call 3003 (s130 (u2.2.2.2==0)) [] [] fun r145=>
 .done ()
def xsAt3 (l:Nat) (s:ByteArray) (out:List Q4) (S:ByteArray) (a:Int) (u2:ByteArray×Int×Int×Int):Ext:=Ext.of .normal [(0,.yld l),(1,.ptr 2000000 0 0),(3,.ptr 3 0 0),(4,.i u2.2.2.1),(5,.ptr 5 0 0),(6,.i u2.2.2.2)] [(3,⟨2,true,[[.str S,.i a]]⟩),(5,⟨2,true,[[.str u2.1,.i u2.2.1]]⟩),(1000002,⟨1,true,[[.ref 1900070 0 out.length]]⟩),(2000000,⟨1,true,[[.str s]]⟩)] [BT.of 1900070 Q6 2 out true] (by rfl)
def xeAt3 (l:Nat) (s:ByteArray) (out:List Q4) (S:ByteArray) (a:Int) (u2:ByteArray×Int×Int×Int):(Unit)→Ext:=fun(r:Unit)=>Ext.of .normal [(0,.yld l),(1,.ptr 2000000 0 0),(3,.ptr 3 0 0),(4,.i u2.2.2.1),(5,.ptr 5 0 0),(6,.i u2.2.2.2)] [(3,⟨2,true,[[.str S,.i a]]⟩),(5,⟨2,true,[[.str u2.1,.i u2.2.1]]⟩),(1000002,⟨1,true,[[.ref 1900070 0 out.length]]⟩),(2000000,⟨1,true,[[.str s]]⟩)] [BT.of 1900070 Q6 2 out true] (by rfl)
theorem kAt3 (l:Nat) (s:ByteArray) (out:List Q4) (S:ByteArray) (a:Int) (u2:ByteArray×Int×Int×Int):Z9 Tryz.prog GG [0,1,3,4,5,6] 70 (cL (cR aBk)) (xsAt3 l s out S a u2) (gAt3 l s out S a u2) (xeAt3 l s out S a u2):=by unfold Z9;kernel_rfl
noncomputable def gAt4 (l:Nat) (s:ByteArray) (out:List Q4) (S:ByteArray) (a:Int) (u2:ByteArray×Int×Int×Int):TT (ByteArray×Int×Int×Int):=
 .call 4002 (s129 (U0.mk u2.1 u2.2.1) 2) [] [] fun r146=>
 .done (r146.2.1.fS,r146.2.1.fAt,r146.2.2,r146.1)
def xsAt4 (l:Nat) (s:ByteArray) (out:List Q4) (S:ByteArray) (a:Int) (u2:ByteArray×Int×Int×Int):Ext:=Ext.of .normal [(0,.yld l),(1,.ptr 2000000 0 0),(3,.ptr 3 0 0),(4,.i u2.2.2.1),(5,.ptr 5 0 0),(6,.i u2.2.2.2)] [(3,⟨2,true,[[.str S,.i a]]⟩),(5,⟨2,true,[[.str u2.1,.i u2.2.1]]⟩),(1000002,⟨1,true,[[.ref 1900070 0 out.length]]⟩),(2000000,⟨1,true,[[.str s]]⟩)] [BT.of 1900070 Q6 2 out true] (by rfl)
def xeAt4 (l:Nat) (s:ByteArray) (out:List Q4) (S:ByteArray) (a:Int) (u2:ByteArray×Int×Int×Int):(ByteArray×Int×Int×Int)→Ext:=fun(r:ByteArray×Int×Int×Int)=>Ext.of .normal [(0,.yld l),(1,.ptr 2000000 0 0),(3,.ptr 3 0 0),(4,.i u2.2.2.1),(5,.ptr 5 0 0),(6,.i r.2.2.1),(7,.i r.2.2.2)] [(3,⟨2,true,[[.str S,.i a]]⟩),(5,⟨2,true,[[.str r.1,.i r.2.1]]⟩),(1000002,⟨1,true,[[.ref 1900070 0 out.length]]⟩),(2000000,⟨1,true,[[.str s]]⟩)] [BT.of 1900070 Q6 2 out true] (by rfl)
theorem kAt4 (l:Nat) (s:ByteArray) (out:List Q4) (S:ByteArray) (a:Int) (u2:ByteArray×Int×Int×Int):Z9 Tryz.prog GG [0,1,3,4,5,6,7] 70 (cL (cR (cR aBk))) (xsAt4 l s out S a u2) (gAt4 l s out S a u2) (xeAt4 l s out S a u2):=by unfold Z9;kernel_rfl
noncomputable def gAt5 (l:Nat) (s:ByteArray) (out:List Q4) (S:ByteArray) (a:Int) (u2:ByteArray×Int×Int×Int) (u4:ByteArray×Int×Int×Int):TT (Unit):=
 .call 5003 (s130 (u4.2.2.1==0)) [] [] fun r147=>
 .done ()
def xsAt5 (l:Nat) (s:ByteArray) (out:List Q4) (S:ByteArray) (a:Int) (u2:ByteArray×Int×Int×Int) (u4:ByteArray×Int×Int×Int):Ext:=Ext.of .normal [(0,.yld l),(1,.ptr 2000000 0 0),(3,.ptr 3 0 0),(4,.i u2.2.2.1),(5,.ptr 5 0 0),(6,.i u4.2.2.1),(7,.i u4.2.2.2)] [(3,⟨2,true,[[.str S,.i a]]⟩),(5,⟨2,true,[[.str u4.1,.i u4.2.1]]⟩),(1000002,⟨1,true,[[.ref 1900070 0 out.length]]⟩),(2000000,⟨1,true,[[.str s]]⟩)] [BT.of 1900070 Q6 2 out true] (by rfl)
def xeAt5 (l:Nat) (s:ByteArray) (out:List Q4) (S:ByteArray) (a:Int) (u2:ByteArray×Int×Int×Int) (u4:ByteArray×Int×Int×Int):(Unit)→Ext:=fun(r:Unit)=>Ext.of .normal [(0,.yld l),(1,.ptr 2000000 0 0),(3,.ptr 3 0 0),(4,.i u2.2.2.1),(5,.ptr 5 0 0),(6,.i u4.2.2.1),(7,.i u4.2.2.2)] [(3,⟨2,true,[[.str S,.i a]]⟩),(5,⟨2,true,[[.str u4.1,.i u4.2.1]]⟩),(1000002,⟨1,true,[[.ref 1900070 0 out.length]]⟩),(2000000,⟨1,true,[[.str s]]⟩)] [BT.of 1900070 Q6 2 out true] (by rfl)
theorem kAt5 (l:Nat) (s:ByteArray) (out:List Q4) (S:ByteArray) (a:Int) (u2:ByteArray×Int×Int×Int) (u4:ByteArray×Int×Int×Int):Z9 Tryz.prog GG [0,1,3,4,5,6,7] 70 (cL (cR (cR (cR aBk)))) (xsAt5 l s out S a u2 u4) (gAt5 l s out S a u2 u4) (xeAt5 l s out S a u2 u4):=by unfold Z9;kernel_rfl
noncomputable def gAt6 (l:Nat) (s:ByteArray) (out:List Q4) (S:ByteArray) (a:Int) (u2:ByteArray×Int×Int×Int) (u4:ByteArray×Int×Int×Int):TT (ByteArray×Int×Int×ByteArray):=
 .call 6003 (s211 (U0.mk u4.1 u4.2.1) u4.2.2.2) [] [] fun r148=>
 .done (r148.2.1.fS,r148.2.1.fAt,r148.2.2,r148.1)
def xsAt6 (l:Nat) (s:ByteArray) (out:List Q4) (S:ByteArray) (a:Int) (u2:ByteArray×Int×Int×Int) (u4:ByteArray×Int×Int×Int):Ext:=Ext.of .normal [(0,.yld l),(1,.ptr 2000000 0 0),(3,.ptr 3 0 0),(4,.i u2.2.2.1),(5,.ptr 5 0 0),(6,.i u4.2.2.1),(7,.i u4.2.2.2)] [(3,⟨2,true,[[.str S,.i a]]⟩),(5,⟨2,true,[[.str u4.1,.i u4.2.1]]⟩),(1000002,⟨1,true,[[.ref 1900070 0 out.length]]⟩),(2000000,⟨1,true,[[.str s]]⟩)] [BT.of 1900070 Q6 2 out true] (by rfl)
def xeAt6 (l:Nat) (s:ByteArray) (out:List Q4) (S:ByteArray) (a:Int) (u2:ByteArray×Int×Int×Int) (u4:ByteArray×Int×Int×Int):(ByteArray×Int×Int×ByteArray)→Ext:=fun(r:ByteArray×Int×Int×ByteArray)=>Ext.of .normal [(0,.yld l),(1,.ptr 2000000 0 0),(3,.ptr 3 0 0),(4,.i u2.2.2.1),(5,.ptr 5 0 0),(6,.i r.2.2.1),(7,.i u4.2.2.2),(8,.str r.2.2.2)] [(3,⟨2,true,[[.str S,.i a]]⟩),(5,⟨2,true,[[.str r.1,.i r.2.1]]⟩),(1000002,⟨1,true,[[.ref 1900070 0 out.length]]⟩),(2000000,⟨1,true,[[.str s]]⟩)] [BT.of 1900070 Q6 2 out true] (by rfl)
theorem kAt6 (l:Nat) (s:ByteArray) (out:List Q4) (S:ByteArray) (a:Int) (u2:ByteArray×Int×Int×Int) (u4:ByteArray×Int×Int×Int):Z9 Tryz.prog GG [0,1,3,4,5,6,7,8] 70 (cL (cR (cR (cR (cR aBk))))) (xsAt6 l s out S a u2 u4) (gAt6 l s out S a u2 u4) (xeAt6 l s out S a u2 u4):=by unfold Z9;kernel_rfl
noncomputable def gAt7 (l:Nat) (s:ByteArray) (out:List Q4) (S:ByteArray) (a:Int) (u2:ByteArray×Int×Int×Int) (u4:ByteArray×Int×Int×Int) (u6:ByteArray×Int×Int×ByteArray):TT (Unit):=
 .call 7003 (s130 (u6.2.2.1==0)) [] [] fun r149=>
 .done ()
def xsAt7 (l:Nat) (s:ByteArray) (out:List Q4) (S:ByteArray) (a:Int) (u2:ByteArray×Int×Int×Int) (u4:ByteArray×Int×Int×Int) (u6:ByteArray×Int×Int×ByteArray):Ext:=Ext.of .normal [(0,.yld l),(1,.ptr 2000000 0 0),(3,.ptr 3 0 0),(4,.i u2.2.2.1),(5,.ptr 5 0 0),(6,.i u6.2.2.1),(7,.i u4.2.2.2),(8,.str u6.2.2.2)] [(3,⟨2,true,[[.str S,.i a]]⟩),(5,⟨2,true,[[.str u6.1,.i u6.2.1]]⟩),(1000002,⟨1,true,[[.ref 1900070 0 out.length]]⟩),(2000000,⟨1,true,[[.str s]]⟩)] [BT.of 1900070 Q6 2 out true] (by rfl)
def xeAt7 (l:Nat) (s:ByteArray) (out:List Q4) (S:ByteArray) (a:Int) (u2:ByteArray×Int×Int×Int) (u4:ByteArray×Int×Int×Int) (u6:ByteArray×Int×Int×ByteArray):(Unit)→Ext:=fun(r:Unit)=>Ext.of .normal [(0,.yld l),(1,.ptr 2000000 0 0),(3,.ptr 3 0 0),(4,.i u2.2.2.1),(5,.ptr 5 0 0),(6,.i u6.2.2.1),(7,.i u4.2.2.2),(8,.str u6.2.2.2)] [(3,⟨2,true,[[.str S,.i a]]⟩),(5,⟨2,true,[[.str u6.1,.i u6.2.1]]⟩),(1000002,⟨1,true,[[.ref 1900070 0 out.length]]⟩),(2000000,⟨1,true,[[.str s]]⟩)] [BT.of 1900070 Q6 2 out true] (by rfl)
theorem kAt7 (l:Nat) (s:ByteArray) (out:List Q4) (S:ByteArray) (a:Int) (u2:ByteArray×Int×Int×Int) (u4:ByteArray×Int×Int×Int) (u6:ByteArray×Int×Int×ByteArray):Z9 Tryz.prog GG [0,1,3,4,5,6,7,8] 70 (cL (cR (cR (cR (cR (cR aBk)))))) (xsAt7 l s out S a u2 u4 u6) (gAt7 l s out S a u2 u4 u6) (xeAt7 l s out S a u2 u4 u6):=by unfold Z9;kernel_rfl
noncomputable def gAt8 (l:Nat) (s:ByteArray) (out:List Q4) (S:ByteArray) (a:Int) (u2:ByteArray×Int×Int×Int) (u4:ByteArray×Int×Int×Int) (u6:ByteArray×Int×Int×ByteArray):TT (ByteArray×Int×Int×ByteArray):=
 .call 8005 (s211 (U0.mk u6.1 u6.2.1) (Y0 .i64 (Q7 (0 - u4.2.2.2)) 3)) [] [] fun r150=>
 .done (r150.2.1.fS,r150.2.1.fAt,r150.2.2,r150.1)
def xsAt8 (l:Nat) (s:ByteArray) (out:List Q4) (S:ByteArray) (a:Int) (u2:ByteArray×Int×Int×Int) (u4:ByteArray×Int×Int×Int) (u6:ByteArray×Int×Int×ByteArray):Ext:=Ext.of .normal [(0,.yld l),(1,.ptr 2000000 0 0),(3,.ptr 3 0 0),(4,.i u2.2.2.1),(5,.ptr 5 0 0),(6,.i u6.2.2.1),(7,.i u4.2.2.2),(8,.str u6.2.2.2)] [(3,⟨2,true,[[.str S,.i a]]⟩),(5,⟨2,true,[[.str u6.1,.i u6.2.1]]⟩),(1000002,⟨1,true,[[.ref 1900070 0 out.length]]⟩),(2000000,⟨1,true,[[.str s]]⟩)] [BT.of 1900070 Q6 2 out true] (by rfl)
def xeAt8 (l:Nat) (s:ByteArray) (out:List Q4) (S:ByteArray) (a:Int) (u2:ByteArray×Int×Int×Int) (u4:ByteArray×Int×Int×Int) (u6:ByteArray×Int×Int×ByteArray):(ByteArray×Int×Int×ByteArray)→Ext:=fun(r:ByteArray×Int×Int×ByteArray)=>Ext.of .normal [(0,.yld l),(1,.ptr 2000000 0 0),(3,.ptr 3 0 0),(4,.i u2.2.2.1),(5,.ptr 5 0 0),(6,.i r.2.2.1),(8,.str u6.2.2.2),(9,.str r.2.2.2)] [(3,⟨2,true,[[.str S,.i a]]⟩),(5,⟨2,true,[[.str r.1,.i r.2.1]]⟩),(1000002,⟨1,true,[[.ref 1900070 0 out.length]]⟩),(2000000,⟨1,true,[[.str s]]⟩)] [BT.of 1900070 Q6 2 out true] (by rfl)
theorem kAt8 (l:Nat) (s:ByteArray) (out:List Q4) (S:ByteArray) (a:Int) (u2:ByteArray×Int×Int×Int) (u4:ByteArray×Int×Int×Int) (u6:ByteArray×Int×Int×ByteArray):Z9 Tryz.prog GG [0,1,3,4,5,6,7,8,9] 70 (cL (cR (cR (cR (cR (cR (cR aBk))))))) (xsAt8 l s out S a u2 u4 u6) (gAt8 l s out S a u2 u4 u6) (xeAt8 l s out S a u2 u4 u6):=by unfold Z9;kernel_rfl
noncomputable def g212 (p0:ByteArray):TT (ByteArray):=
 .cnd 1 [12]
 (.br 1004 (decide (p0=ByteArray.empty))
  (.done true)
  (.done false))
 (fun(c151:Bool)=>[.bool c151]) fun c151=>
 .br 0 c151
 (.done p0)
 (.tt (.call 4004 (s244 p0 0) [] [] fun r152=>
  .call 4007 (s243 r152 0) [] [] fun r153=>
  .done r153))
noncomputable def s212 (p0:ByteArray):EV.Spec Tryz.prog GG (ByteArray):=.ofFn 212 Q8 Tryz.func212 (show FnD Tryz.prog GG [0,1,4,5,6,12,21,34] Tryz.f212 [.str p0,.str (bs [0])] (g212 p0) (fun r=>.str r) by unfold FnD;kernel_rfl)
noncomputable def gAt9 (l:Nat) (s:ByteArray) (out:List Q4) (S:ByteArray) (a:Int) (u2:ByteArray×Int×Int×Int) (u4:ByteArray×Int×Int×Int) (u6:ByteArray×Int×Int×ByteArray) (u8:ByteArray×Int×Int×ByteArray):TT (Unit):=
 .cnd 9 []
 (.br 9004 (u8.2.2.1==0)
  (.call 9005 (s212 u8.2.2.2) [] [] fun r154=>
   .call 9008 (s130 (decide (r154=ByteArray.empty))) [] [] fun r155=>
   .done ())
  (.call 9008 (s130 false) [] [] fun r156=>
   .done ()))
 (fun(c157:Unit)=>[]) fun c157=>
 .done ()
def xsAt9 (l:Nat) (s:ByteArray) (out:List Q4) (S:ByteArray) (a:Int) (u2:ByteArray×Int×Int×Int) (u4:ByteArray×Int×Int×Int) (u6:ByteArray×Int×Int×ByteArray) (u8:ByteArray×Int×Int×ByteArray):Ext:=Ext.of .normal [(0,.yld l),(1,.ptr 2000000 0 0),(3,.ptr 3 0 0),(4,.i u2.2.2.1),(5,.ptr 5 0 0),(6,.i u8.2.2.1),(8,.str u6.2.2.2),(9,.str u8.2.2.2)] [(3,⟨2,true,[[.str S,.i a]]⟩),(5,⟨2,true,[[.str u8.1,.i u8.2.1]]⟩),(1000002,⟨1,true,[[.ref 1900070 0 out.length]]⟩),(2000000,⟨1,true,[[.str s]]⟩)] [BT.of 1900070 Q6 2 out true] (by rfl)
def xeAt9 (l:Nat) (s:ByteArray) (out:List Q4) (S:ByteArray) (a:Int) (u2:ByteArray×Int×Int×Int) (u4:ByteArray×Int×Int×Int) (u6:ByteArray×Int×Int×ByteArray) (u8:ByteArray×Int×Int×ByteArray):(Unit)→Ext:=fun(r:Unit)=>Ext.of .normal [(0,.yld l),(1,.ptr 2000000 0 0),(3,.ptr 3 0 0),(4,.i u2.2.2.1),(5,.ptr 5 0 0),(8,.str u6.2.2.2)] [(3,⟨2,true,[[.str S,.i a]]⟩),(5,⟨2,true,[[.str u8.1,.i u8.2.1]]⟩),(1000002,⟨1,true,[[.ref 1900070 0 out.length]]⟩),(2000000,⟨1,true,[[.str s]]⟩)] [BT.of 1900070 Q6 2 out true] (by rfl)
theorem kAt9 (l:Nat) (s:ByteArray) (out:List Q4) (S:ByteArray) (a:Int) (u2:ByteArray×Int×Int×Int) (u4:ByteArray×Int×Int×Int) (u6:ByteArray×Int×Int×ByteArray) (u8:ByteArray×Int×Int×ByteArray):Z9 Tryz.prog GG [0,1,3,4,5,6,8,9] 70 (cL (cR (cR (cR (cR (cR (cR (cR aBk)))))))) (xsAt9 l s out S a u2 u4 u6 u8) (gAt9 l s out S a u2 u4 u6 u8) (xeAt9 l s out S a u2 u4 u6 u8):=by unfold Z9;kernel_rfl
noncomputable def gAt11 (l:Nat) (s:ByteArray) (out:List Q4) (S:ByteArray) (a:Int) (S2:ByteArray) (a2:Int):TT (Unit):=
 .done ()
def xsAt11 (l:Nat) (s:ByteArray) (out:List Q4) (S:ByteArray) (a:Int) (S2:ByteArray) (a2:Int):Ext:=Ext.of .normal [(0,.yld l),(1,.ptr 2000000 0 0),(3,.ptr 3 0 0),(5,.snap [.str S2,.i a2])] [(3,⟨2,true,[[.str S,.i a]]⟩),(1000002,⟨1,true,[[.ref 1900070 0 out.length]]⟩),(2000000,⟨1,true,[[.str s]]⟩)] [BT.of 1900070 Q6 2 out true] (by rfl)
def xeAt11 (l:Nat) (s:ByteArray) (out:List Q4) (S:ByteArray) (a:Int) (S2:ByteArray) (a2:Int):(Unit)→Ext:=fun(r:Unit)=>Ext.of .normal [(0,.yld l),(1,.ptr 2000000 0 0),(3,.ptr 3 0 0)] [(3,⟨2,true,[[.str S2,.i a2]]⟩),(1000002,⟨1,true,[[.ref 1900070 0 out.length]]⟩),(2000000,⟨1,true,[[.str s]]⟩)] [BT.of 1900070 Q6 2 out true] (by rfl)
theorem kAt11 (l:Nat) (s:ByteArray) (out:List Q4) (S:ByteArray) (a:Int) (S2:ByteArray) (a2:Int):Z9 Tryz.prog GG [0,1,3,5] 70 (cR (cR (cR (cR (cR (cR (cR (cR (cR aBk))))))))) (xsAt11 l s out S a S2 a2) (gAt11 l s out S a S2 a2) (xeAt11 l s out S a S2 a2):=by unfold Z9;kernel_rfl
noncomputable def gAt12 (l:Nat) (s:ByteArray) (out:List Q4) (S:ByteArray) (a:Int):TT (Unit):=
 .gh 15 (.drop [3]) (.done ())
def xsAt12 (l:Nat) (s:ByteArray) (out:List Q4) (S:ByteArray) (a:Int):Ext:=Ext.of .normal [(0,.yld l),(1,.ptr 2000000 0 0),(3,.ptr 3 0 0)] [(3,⟨2,true,[[.str S,.i a]]⟩),(1000002,⟨1,true,[[.ref 1900070 0 out.length]]⟩),(2000000,⟨1,true,[[.str s]]⟩)] [BT.of 1900070 Q6 2 out true] (by rfl)
def xeAt12 (l:Nat) (s:ByteArray) (out:List Q4) (S:ByteArray) (a:Int):(Unit)→Ext:=fun(r:Unit)=>Ext.of .normal [(0,.yld l),(1,.ptr 2000000 0 0),(3,.ptr 3 0 0)] [(3,⟨2,true,[[.str S,.i a]]⟩),(1000002,⟨1,true,[[.ref 1900070 0 out.length]]⟩),(2000000,⟨1,true,[[.str s]]⟩)] [BT.of 1900070 Q6 2 out true] (by rfl)
theorem kAt12 (l:Nat) (s:ByteArray) (out:List Q4) (S:ByteArray) (a:Int):Z9 Tryz.prog GG [0,1,3,69] 70 (cR (cR aL)) (xsAt12 l s out S a) (gAt12 l s out S a) (xeAt12 l s out S a):=by unfold Z9;kernel_rfl
end Go.Proofs.YtjpahkpfkohfkaaGreatDoor
namespace Go.Proofs.YtjpahkpfkohfkaaGreatDoor
open Go Go.EV
set_option maxRecDepth 100000
def atC (x:Q4):List V:=[.int .i64 x.fKind,.str x.fValue]
def atTs:List (Nat×V):=[(2,.ptr 1000002 0 0),(6,.fn 210 [] [.ptr 2000000 0 0])]
def atL (s:ByteArray) (o:V):List (Nat×Blk):=[(1000002,⟨1,true,[[o]]⟩),(2000000,⟨1,true,[[.str s]]⟩)]
def atT (out:List Q4):List BT:=[BT.of 1900070 Q6 2 out true]
def atX (ts:List (Nat×V)) (s:ByteArray) (out:List Q4):Ext:=Ext.of .normal ts (atL s (.ref 1900070 0 out.length)) (atT out) (by rfl)
def atB (s:ByteArray) (out:List Q4):List (Nat×Blk):=(atX [] s out).bs
noncomputable def atR:Code:=cB (cR (cL (cR (Tryz.f209.body.getD .skip))))
noncomputable def atAs:Code:=rAssign atR
noncomputable def atBd:Code:=rBody atR
section
variable (s:ByteArray) (out:List Q4) (x:Q4)
def xAa:Ext:=atX ((7,.agg (atC x)) :: atTs) s out
def xAb:Ext:=Ext.of .normal (atTs++[(5,.ptr 5 0 0)]) ((5,⟨2,true,[atC x]⟩) :: atL s (.ref 1900070 0 out.length)) (atT out) (by rfl)
def xAd:Ext:=Ext.of .normal [] (atL s (.ref 11 0 (out++[x]).length)) [BT.of 11 Q6 2 (out++[x]) true] (by rfl)
theorem kAa:Z9 Tryz.prog GG [2,5,6] 13 atAs (xAa s out x) (.done ():TT Unit) (fun _=>xAb s out x):=by unfold Z9;kernel_rfl
def gAd:TT Unit:=.app 3004 Q6 out [x] 24 false (by intro h;cases h) (.done ())
theorem kAd:Z9 Tryz.prog GG [11] 13 atBd (xAb s out x) (gAd out x) (fun _=>xAd s out x):=by unfold Z9;kernel_rfl
end
theorem mobA {s:ByteArray} {out:List Q4} {x:Q4} {g:St} (h:Gst GG g ((xAd s out x).D 13).st):Gst GG g (E5 13 (fun _=>.undef) (ofL (atB s (out++[x])))):=
 Gst.trans h (Gst.mob (lits:=atL s (.ref 11 0 (out++[x]).length)) (rest:=[]) (kd:=(BT.of 11 Q6 2 (out++[x]) true).k) (d:=11) (m:=1900070) (n:=13)
  (by decide) (by decide) (by decide) (by decide:([1000002,2000000,11]:List Nat).Nodup) (Q6.data _) (by
   intro p hp
   simp at hp) (by rfl) (by rfl))
theorem roundAtt (s:ByteArray) (out:List Q4) (x:Q4) (hb:(gAd out x).run=some ()) :
  RoundT Tryz.prog GG 13 (tOf atTs) [7] atAs atBd (ofL (atB s out)) [.agg (atC x)] (fun e b'=>e=.normal∧b'=ofL (atB s (out++[x]))):=by
 refine⟨((xAb s out x).D 13).st,?_,?_⟩
 ·have h:=(kAa s out x).tv Q8 (r:=()) rfl (by rfl)
  have e:((xAa s out x).D 13).st=setP (E5 13 (tOf atTs) (ofL (atB s out))) ([7].zip [.agg (atC x)]):=by
   rw[O5 (by rfl)]
   exact(setP_susp 13 atTs _ 7 (.agg (atC x))).symm
  rw[e] at h
  exact h
 ·refine((kAd s out x).tv Q8 hb (by rfl)).mono fun e s' hg=>?_
  obtain⟨rfl,g⟩:=hg
  exact⟨_,13,⟨rfl,rfl⟩,mobA g⟩
def atArgs (l:Nat):List V:=[.yld l,.ptr 2000000 0 0]
noncomputable def aTl:Code:=cR (cR aL)
noncomputable def ops10:Array Oper:=rOps (cL (cL (cR (cR (cR (cR (cR (cR (cR (cR aBk))))))))))
theorem eAt:cAt=.seq (cL cAt) (.block 0 (.loop aL)):=by kernel_rfl
theorem eAL:aL=.seq (.seq (cL (cL aL)) (.cond (.tmp 16) .skip (.exit 0))) (.seq (.block 1 aBk) aTl):=by kernel_rfl
theorem eABk:aBk=.seq (cL aBk) (.seq (cL (cR aBk)) (.seq (cL (cR (cR aBk))) (.seq (cL (cR (cR (cR aBk)))) (.seq (cL (cR (cR (cR (cR aBk))))) (.seq (cL (cR (cR (cR (cR (cR aBk)))))) (.seq (cL (cR (cR (cR (cR (cR (cR aBk))))))) (.seq (cL (cR (cR (cR (cR (cR (cR (cR aBk))))))))
 (.seq (.seq (.region 10 ops10 false) (.cond (.tmp 67) .ret .skip)) (cR (cR (cR (cR (cR (cR (cR (cR (cR aBk))))))))))))))))):=by kernel_rfl
abbrev AI4:=ByteArray×Int×Int×Int
abbrev AS4:=ByteArray×Int×Int×ByteArray
def atN (u2:AI4) (u6:AS4):Q4:=⟨u2.2.2.1,u6.2.2.2⟩
section
variable (l:Nat) (s:ByteArray) (out:List Q4) (S:ByteArray) (a:Int) (u2 u4:AI4) (u6 u8:AS4)
def xAt10:Ext:=Ext.of .normal [(0,.yld l),(1,.ptr 2000000 0 0),(3,.ptr 3 0 0),(5,.ptr 5 0 0),(62,.yld l),(65,.agg (atC (atN u2 u6)))]
 ([(3,⟨2,true,[[.str S,.int .i64 a]]⟩),(5,⟨2,true,[[.str u8.1,.int .i64 u8.2.1]]⟩)]++atL s (.ref 1900070 0 out.length)) (atT out) (by rfl)
def tAt (u8:AS4) (x:Q4):List (Nat×V):=[(0,.yld l),(1,.ptr 2000000 0 0),(3,.ptr 3 0 0),(5,.snap [.str u8.1,.int .i64 u8.2.1]),(62,.yld l),(65,.agg (atC x))]
def xAtK (x:Q4):Ext:=Ext.of .normal (tAt l u8 x) ((3,⟨2,true,[[.str S,.i a]]⟩) :: atL s (.ref 1900070 0 out.length)) (atT out) (by rfl)
theorem kA10:O6 Tryz.prog GG [0,1,3,5,62,65] 70 10 ops10 4 (xeAt9 l s out S a u2 u4 u6 u8 ()) (.done ():TT Unit) (fun _=>xAt10 l s out S a u2 u6 u8):=by unfold O6;kernel_rfl
theorem snapAt {g:St} (h:Gst GG g ((xAt10 l s out S a u2 u6 u8).D 70).st):Gst GG g ((xAtK l s out S a u8 (atN u2 u6)).D 70).st:=
 Gst.trans h (Gst.trans (Gst.snapT (t:=5) (b:=5) (k:=⟨2,true,[[.str u8.1,.int .i64 u8.2.1]]⟩) (row:=[.str u8.1,.int .i64 u8.2.1]) rfl rfl rfl (by show 2 < K7;decide) (fun c hc=>by
  simp only[List.mem_cons,List.not_mem_nil,or_false] at hc
  rcases hc with rfl|rfl<;>rfl)) (X6 (xAtK l s out S a u8 (atN u2 u6)) (by rfl) rfl ⟨by rfl,by rfl⟩))
end
noncomputable def atBody (s:ByteArray) (S:ByteArray) (a:Int):Option (Q4×ByteArray×Int):=
 (gAt2 0 s [] S a).run.bind fun u2=>(gAt3 0 s [] S a u2).run.bind fun _=>(gAt4 0 s [] S a u2).run.bind fun u4=>(gAt5 0 s [] S a u2 u4).run.bind fun _=>(gAt6 0 s [] S a u2 u4).run.bind fun u6=>
  (gAt7 0 s [] S a u2 u4 u6).run.bind fun _=>(gAt8 0 s [] S a u2 u4 u6).run.bind fun u8=>(gAt9 0 s [] S a u2 u4 u6 u8).run.bind fun _=>some (atN u2 u6,u8.1,u8.2.1)
noncomputable def atStep (s:ByteArray) (y:ByteArray×Int×List Q4):Option ((ByteArray×Int×List Q4)⊕List Q4):=
 bif decide (y.2.1 < (s.size:Int)) then
  ((atBody s y.1 y.2.1).bind fun q=>(gAd y.2.2 q.1).run.bind fun _=>some (.inl (q.2.1,q.2.2,y.2.2++[q.1])))
 else some (.inr y.2.2)
noncomputable def attM (s:ByteArray):Option (List Q4):=G7 (atStep s) FUEL (s,0,[])
noncomputable def atYL:YL:=⟨13,tOf atTs,#[7],atAs,atBd⟩
theorem atB_ok (s:ByteArray) (out:List Q4) (p:Nat×Blk) (h:p∈atB s out):p.2.size < K7∧okL uTop p.2.rows.flatten=true:=by
 have h':p∈atL s (.ref 1900070 0 out.length)++(atT out).map fun x=>(x.id,x.k):=h
 rcases List.mem_append.1 h' with h|h
 ·have all:((atL s (.ref 1900070 0 out.length)).all fun p=>decide (p.2.size < K7)&&okL uTop p.2.rows.flatten)=true:=by rfl
  have:=List.all_eq_true.1 all p h
  simpa using this
 ·refine⟨?_,okL_refs _ fun b hb=>by rw[(bts_dat _ h).refs] at hb;simp at hb⟩
  obtain⟨x,hx,rfl⟩:=List.mem_map.1 h
  have hx:x∈[BT.of 1900070 Q6 2 out true]:=hx
  rw[List.mem_singleton] at hx
  subst hx
  exact(by decide:2 < K7)
theorem atB_top (s:ByteArray) (out:List Q4) (p:Nat×Blk) (h:p∈atB s out):uTop p.1=true:=by
 have all:((atB s out).all fun p=>uTop p.1)=true:=by rfl
 exact List.all_eq_true.1 all p h
theorem keepT_tOf (c:Nat) (l l2:List (Nat×V)) (h:(l.map fun p=>(p.1,A2 c (fun _=>p.2) 0))=l2) (i:Nat):A2 c (tOf l) i=tOf l2 i:=by
 subst h
 induction l with
 | nil=>rfl
 | cons p l ih=>
  by_cases e:p.1=i
  ·have e1:tOf (p :: l) i=p.2:=by simp[tOf,e]
   have e2:tOf ((p :: l).map fun p=>(p.1,A2 c (fun _=>p.2) 0)) i=A2 c (fun _=>p.2) 0:=by simp[tOf,e]
   rw[e2];unfold A2;rw[e1]
  ·have e1:tOf (p :: l) i=tOf l i:=by simp[tOf,e]
   have e2:tOf ((p :: l).map fun p=>(p.1,A2 c (fun _=>p.2) 0)) i=tOf (l.map fun p=>(p.1,A2 c (fun _=>p.2) 0)) i:=by simp[tOf,e]
   rw[e2,←ih];unfold A2;rw[e1]
theorem iterAtt (s:ByteArray) {r:List Q4} (h:attM s=some r) :
  IterT Tryz.prog GG cAt 70 atArgs (ofL (atB s [])) atYL (fun e b=>e=.normal∧b=ofL (atB s r)):=by
 refine IterT.of fun l=>?_
 have e0:entry 70 (atArgs l) (ofL (atB s []))=((atX (W0 (atArgs l)) s []).D 70).st:=(entry_ext (x:=atX (W0 (atArgs l)) s []) (by rfl) (by rfl) 70).symm
 rw[e0,eAt]
 show YT _ _ _ _ _ ⟨.normal,((xsAt0 l s []).D 70).st⟩ _
 refine YT.seq (YT.piece (kAt0 l s []) Q8 rfl (by rfl) fun st g=>?_)
 show YT _ _ _ _ _ _ _
 refine YT.block ?_
 refine YT.loop (fun m st=>st.x=.normal∧∃y:ByteArray×Int×List Q4,Gst GG st.st ((xsAt1 l s y.2.2 y.1 y.2.1).D 70).st∧G7 (atStep s) m y=some r) (fun m st hI=>?_) (n:=FUEL) ⟨rfl,(s,0,[]),g,h⟩
 obtain⟨x,st⟩:=st
 obtain⟨rfl,⟨S,a,out⟩,g,hit⟩:=hI
 refine YT.gst g ?_
 cases m with
 | zero=>simp[G7] at hit
 | succ m=>
  rw[iter_succ] at hit
  rw[eAL]
  refine YT.seq (YT.seq (YT.piece (kAt1 l s out S a) Q8 rfl (by rfl) fun st g=>?_))
  show YT _ _ _ _ _ _ _
  refine YT.gst g ?_
  cases hc:decide (a < (s.size:Int)) with
  | false=>
   have hs0:atStep s (S,a,out)=some (.inr out):=by unfold atStep;simp only[hc];rfl
   rw[hs0] at hit
   obtain rfl:out=r:=Option.some.inj hit
   refine YT.cond (b:=false) (by show some (V.bool (decide (a < (s.size:Int))))=_;rw[hc]) (YT.exit ?_)
   refine⟨.inl rfl,70,tOf (atX [(0,.yld l)] s out).ts,ofL (atB s out),?_,rfl,rfl⟩
   show Gst GG ((xeAt1 l s out S a ()).D 70).st _
   have e1:=O5 (x:=atX [(0,.yld l)] s out) (by rfl) 70
   show Gst GG _ (E5 70 (tOf (atX [(0,.yld l)] s out).ts) (ofL (atX [(0,.yld l)] s out).bs))
   rw[←e1]
   exact X6 _ (by rfl) rfl ⟨by rfl,by rfl⟩
  | true=>
   refine YT.cond (b:=true) (by show some (V.bool (decide (a < (s.size:Int))))=_;rw[hc]) (YT.skip ?_)
   show YT _ _ _ _ _ _ _
   refine YT.gst (st':=((xsAt2 l s out S a).D 70).st) (X6 (xsAt2 l s out S a) (by rfl) rfl ⟨by rfl,by rfl⟩) ?_
   have hs0:atStep s (S,a,out)=((atBody s S a).bind fun q=>(gAd out q.1).run.bind fun _=>some (.inl (q.2.1,q.2.2,out++[q.1]))):=by unfold atStep;simp only[hc];rfl
   rw[hs0] at hit
   cases hq:atBody s S a with
   | none=>rw[hq] at hit;simp at hit
   | some q=>
   rw[hq] at hit
   simp only[Option.bind_some] at hit
   cases hd:(gAd out q.1).run with
   | none=>rw[hd] at hit;simp at hit
   | some un=>
   rw[hd] at hit
   simp only[Option.bind_some] at hit
   unfold atBody at hq
   obtain⟨u2,r2,hq⟩:=Option.bind_eq_some_iff.1 hq
   obtain⟨u3,r3,hq⟩:=Option.bind_eq_some_iff.1 hq
   obtain⟨u4,r4,hq⟩:=Option.bind_eq_some_iff.1 hq
   obtain⟨u5,r5,hq⟩:=Option.bind_eq_some_iff.1 hq
   obtain⟨u6,r6,hq⟩:=Option.bind_eq_some_iff.1 hq
   obtain⟨u7,r7,hq⟩:=Option.bind_eq_some_iff.1 hq
   obtain⟨u8,r8,hq⟩:=Option.bind_eq_some_iff.1 hq
   obtain⟨u9,r9,hq⟩:=Option.bind_eq_some_iff.1 hq
   obtain rfl:=Option.some.inj hq
   rw[eABk]
   refine YT.seq (YT.block (YT.seq (YT.piece (kAt2 l s out S a) Q8 (r:=u2) r2 (by rfl) fun st g=>?_)))
   show YT _ _ _ _ _ _ _
   refine YT.gst g (YT.seq (YT.piece (kAt3 l s out S a u2) Q8 (r:=u3) r3 (by rfl) fun st g=>?_))
   show YT _ _ _ _ _ _ _
   refine YT.gst g (YT.seq (YT.piece (kAt4 l s out S a u2) Q8 (r:=u4) r4 (by rfl) fun st g=>?_))
   show YT _ _ _ _ _ _ _
   refine YT.gst g (YT.seq (YT.piece (kAt5 l s out S a u2 u4) Q8 (r:=u5) r5 (by rfl) fun st g=>?_))
   show YT _ _ _ _ _ _ _
   refine YT.gst g (YT.seq (YT.piece (kAt6 l s out S a u2 u4) Q8 (r:=u6) r6 (by rfl) fun st g=>?_))
   show YT _ _ _ _ _ _ _
   refine YT.gst g (YT.seq (YT.piece (kAt7 l s out S a u2 u4 u6) Q8 (r:=u7) r7 (by rfl) fun st g=>?_))
   show YT _ _ _ _ _ _ _
   refine YT.gst g (YT.seq (YT.piece (kAt8 l s out S a u2 u4 u6) Q8 (r:=u8) r8 (by rfl) fun st g=>?_))
   show YT _ _ _ _ _ _ _
   refine YT.gst g (YT.seq (YT.piece (kAt9 l s out S a u2 u4 u6 u8) Q8 (r:=u9) r9 (by rfl) fun st g=>?_))
   show YT _ _ _ _ _ _ _
   refine YT.gst g (YT.seq (YT.seq (YT.region ?_)))
   show W2 _ _ _ _ _ ([0,1,2,3]++[4,5]) _ _
   refine W2.tv ((kA10 l s out S a u2 u4 u6 u8).tv Q8 (r:=()) rfl (by rfl)) fun e st hq'=>⟨hq'.1,W2.gst (snapAt l s out S a u2 u6 u8 hq'.2) ?_⟩
   rw[ext_keep (x:=xAtK l s out S a u8 (atN u2 u6)) (bs:=atB s out) rfl (by rfl) 70]
   refine W2.yieldK (x0:=.normal) (c:=3) (k:=⟨2,true,[[.str S,.int .i64 a]]⟩) (hi:=rfl) (by rfl) rfl (by rfl) (by rfl) rfl rfl (fun i=>?_) (fun i=>tOf_ok (by rfl) i) ?_ rfl (roundAtt s out (atN u2 u6) hd) (fun e b' h=>.inl h.1) rfl rfl ?_ (by show 2 < K7;decide) rfl ?_ ?_ ?_ (Nat.zero_lt_one) ?_
   ·have ht:A2 3 (tOf (tAt l u8 (atN u2 u6))) i=tOf [(0,.yld l),(1,.ptr 2000000 0 0),(3,.undef),(5,.snap [.str u8.1,.int .i64 u8.2.1]),(62,.yld l),(65,.agg (atC (atN u2 u6)))] i:=keepT_tOf 3 _ _ (by rfl) i
    show okV N3 (A2 3 (tOf (tAt l u8 (atN u2 u6))) i)=true
    rw[ht]
    exact tOf_ok (by rfl) i
   ·intro p hp
    have:p∈[7]:=hp
    simp at this
    subst this
    exact(by decide:7 < 13)
   ·intro j q hj
    obtain⟨p,h1,rfl,rfl⟩:=find_b hj
    exact atB_ok s out p h1
   ·intro j q hj
    obtain⟨p,h1,rfl,rfl⟩:=find_b hj
    exact atB_top s out p h1
   ·intro e b' h
    rw[h.2];rfl
   ·intro rw_ hr v hv
    simp only[List.mem_cons,List.not_mem_nil,or_false] at hr
    subst hr
    simp only[List.mem_cons,List.not_mem_nil,or_false] at hv
    rcases hv with rfl|rfl<;>rfl
   ·intro e b' h
    obtain⟨rfl,rfl⟩:=h
    refine W2.step rfl (W2.nil ?_)
    show YT _ _ _ _ _ _ _
    refine YT.cond (b:=false) rfl (YT.skip ?_)
    show YT _ _ _ _ _ _ _
    refine YT.gst (st':=((xsAt11 l s (out++[atN u2 u6]) S a u8.1 u8.2.1).D 70).st) (X6 (xsAt11 l s (out++[atN u2 u6]) S a u8.1 u8.2.1) (by rfl) rfl ⟨by rfl,by rfl⟩) ?_
    refine YT.piece (kAt11 l s (out++[atN u2 u6]) S a u8.1 u8.2.1) Q8 (r:=()) rfl (by rfl) fun st g=>?_
    show YT _ _ _ _ _ _ _
    refine YT.gst g ?_
    refine YT.piece (kAt12 l s (out++[atN u2 u6]) u8.1 u8.2.1) Q8 (r:=()) rfl (by rfl) fun st g=>?_
    exact⟨m,Nat.lt_succ_self m,rfl,(u8.1,u8.2.1,out++[atN u2 u6]),g,hit⟩
def afTs:List (Nat×V):=[(2,.ptr 2 0 0)]
def afL (s:ByteArray) (out:List Q4):List (Nat×Blk):=[(2,⟨1,true,[[.ref 900070 0 out.length]]⟩),(1000000,⟨1,true,[[.str s]]⟩)]
def afT (out:List Q4):List BT:=[BT.of 900070 Q6 2 out true]
def xAf (s:ByteArray) (out:List Q4):Ext:=Ext.of .normal (afTs++[(6,.fn 210 [] [.ptr 1000000 0 0])]) (afL s out) (afT out) (by rfl)
def eAf (s:ByteArray) (out:List Q4):Ext:=Ext.of .normal afTs (afL s out) (afT out) (by rfl)
theorem bsAtt (s:ByteArray) (out:List Q4):shB (ofL (xAf s out).bs)=ofL (atB s out):=by
 rw[shB_ofL]
 have:((xAf s out).bs.map fun p=>(sh p.1,p.2.ren sh))=atB s out:=by
  simp only[xAf,Ext.of,afL,afT,List.cons_append,List.nil_append,List.map_cons,List.map_nil,BT.of,Blk.ren,sh_rows]
  kernel_rfl
 rw[this]
theorem loopAtt (s:ByteArray) {r:List Q4} (h:attM s=some r) :
  TV Tryz.prog GG (.rangeFunc (.tmp 6) #[7] atAs atBd) ((xAf s []).D 13).st (fun e st=>e=.normal∧Gst GG st ((eAf s r).D 13).st):=by
 have ht:(fun i=>W7 sh (((xAf s []).D 13).st.t i))=tOf atTs:=by
  have:((xAf s []).D 13).st.t=tOf (xAf s []).ts:=rfl
  rw[this,tOf_shift]
  have:((xAf s []).ts.map fun p=>(p.1,W7 sh p.2))=atTs:=by kernel_rfl
  rw[this]
 have hb:Tryz.f210.body=some cAt:=by kernel_rfl
 refine TV.rangeF (f:=210) (fi:=Tryz.f210) (c:=cAt) (first:=[]) (caps:=[.ptr 2000000 0 0]) (R:=fun e b=>e=.normal∧b=ofL (atB s r)) ?_ Tryz.func210 hb (by kernel_rfl) (by kernel_rfl) ?_ (fun i=>?_) ?_ ?_
 ·show some ((fun i=>W7 sh (((xAf s []).D 13).st.t i)) 6)=_
  rw[ht];rfl
 ·intro b k hk
  obtain⟨q,h1,rfl,_⟩:=find_b (show ofL (xAf s []).bs b=some k from hk)
  show (((xAf s []).us).contains q.1 || uTop q.1)=true
  simp only[Ext.us,Bool.or_eq_true,List.contains_eq_mem,decide_eq_true_eq]
  exact .inl (List.mem_map.2 ⟨q,h1,rfl⟩)
 ·have:=congrFun ht i
  rw[show W7 sh (((xAf s []).D 13).st.t i)=tOf atTs i from this]
  exact tOf_ok (by rfl) i
 ·have hbb:shB ((xAf s []).D 13).st.b=ofL (atB s []):=bsAtt s []
  rw[ht,hbb]
  have e:max Tryz.f210.ntmps (([]:List V).length+1+[V.ptr 2000000 0 0].length)=70:=by kernel_rfl
  rw[e]
  exact iterAtt s h
 ·intro e b' ho
  obtain⟨rfl,rfl⟩:=ho
  refine⟨.inl rfl,ofL (xAf s r).bs,(bsAtt s r).symm,?_,rfl,?_⟩
  ·show (F3 13 (xAf s []).ts (xAf s r).bs (xAf s []).us).known
   refine⟨fun i b hm=>?_,fun i k hk=>?_⟩
   ·have hm':b∈U2 (tOf (xAf s []).ts i):=hm
    unfold tOf at hm'
    cases hf:(xAf s []).ts.find? (fun p=>p.1==i) with
    | none=>rw[hf] at hm';simp[U2] at hm'
    | some p=>
     rw[hf] at hm'
     have all:((xAf s []).ts.all fun p=>(U2 p.2).all fun b=>(xAf s []).us.contains b)=true:=by rfl
     have:=List.all_eq_true.1 (List.all_eq_true.1 all p (List.mem_of_find?_eq_some hf)) b hm'
     show ((xAf s []).us.contains b || uTop b)=true
     rw[this];rfl
   ·obtain⟨q,h1,rfl,rfl⟩:=find_b (show ofL (xAf s r).bs i=some k from hk)
    have husl:(xAf s r).us=(xAf s []).us:=rfl
    refine⟨?_,fun b hm=>?_⟩
    ·show ((xAf s []).us.contains q.1 || uTop q.1)=true
     rw[←husl]
     simp only[Ext.us,Bool.or_eq_true,List.contains_eq_mem,decide_eq_true_eq]
     exact .inl (List.mem_map.2 ⟨q,h1,rfl⟩)
    ·have:q∈afL s r++(afT r).map fun x=>(x.id,x.k):=h1
     rcases List.mem_append.1 this with h2|h2
     ·have all:((afL s r).all fun q=>(H9 q.2.rows.flatten).all fun b=>(xAf s []).us.contains b)=true:=by rfl
      have:=List.all_eq_true.1 (List.all_eq_true.1 all q h2) b hm
      show ((xAf s []).us.contains b || uTop b)=true
      rw[this];rfl
     ·have hdat:=bts_dat _ h2
      rw[hdat.refs] at hm;simp at hm
  ·show Gst GG (F3 13 (xAf s []).ts (xAf s r).bs (xAf s []).us) _
   exact X6 (eAf s r) (by rfl) rfl ⟨by rfl,by rfl⟩
noncomputable def subAtt (s:ByteArray):Sub Tryz.prog GG (List Q4):=
 ⟨.rangeFunc (.tmp 6) #[7] atAs atBd,13,xAf s [],attM s,eAf s,fun _ h=>loopAtt s h⟩
end Go.Proofs.YtjpahkpfkohfkaaGreatDoor
namespace Go.Proofs.YtjpahkpfkohfkaaGreatDoor
open Go Go.EV
set_option maxRecDepth 100000
noncomputable def cDe:Code:=Tryz.f60.body.getD .skip
noncomputable def gDe0 (s:ByteArray):TT (Unit):=
 .done ()
def xsDe0 (s:ByteArray):Ext:=Ext.of .normal [(0,.str s)] [] [] (by rfl)
def xeDe0 (s:ByteArray):(Unit)→Ext:=fun(r:Unit)=>Ext.of .normal [(1,.ptr 1 0 0),(2,.ptr 2 0 0),(3,.ptr 3 0 0)] [(1,⟨1,true,[[.str s]]⟩),(2,⟨4,true,[[.i 0,.i 0,.str ByteArray.empty,.nilsl]]⟩),(3,⟨1,true,[[.i 0]]⟩)] [] (by rfl)
theorem kDe0 (s:ByteArray):Z9 Tryz.prog GG [0,1,2,3] 73 (cL cDe) (xsDe0 s) (gDe0 s) (xeDe0 s):=by unfold Z9;kernel_rfl
noncomputable def gDe1 (s:ByteArray):TT (Unit):=
 .br 0 (decide ((1200:Int) < (s.size:Int)))
 (.fail)
 (.br 0 (decide ((s.size:Int) < 20))
  (.fail)
  (.done ()))
def xsDe1 (s:ByteArray):Ext:=Ext.of .normal [(1,.ptr 1 0 0),(2,.ptr 2 0 0),(3,.ptr 3 0 0)] [(1,⟨1,true,[[.str s]]⟩),(2,⟨4,true,[[.i 0,.i 0,.str ByteArray.empty,.nilsl]]⟩),(3,⟨1,true,[[.i 0]]⟩)] [] (by rfl)
def xeDe1 (s:ByteArray):(Unit)→Ext:=fun(r:Unit)=>Ext.of .normal [(1,.ptr 1 0 0),(2,.ptr 2 0 0),(3,.ptr 3 0 0)] [(1,⟨1,true,[[.str s]]⟩),(2,⟨4,true,[[.i 0,.i 0,.str ByteArray.empty,.nilsl]]⟩),(3,⟨1,true,[[.i 0]]⟩)] [] (by rfl)
theorem kDe1 (s:ByteArray):Z9 Tryz.prog GG [1,2,3,7,12] 73 (cL (cR cDe)) (xsDe1 s) (gDe1 s) (xeDe1 s):=by unfold Z9;kernel_rfl
noncomputable def g128 (p0 p1:Int) (p2:ByteArray):TT (Int):=
 .chk 1004 ((decide (0≤p1)&&decide (p1≤(p2.size:Int)))&&(decide (0≤p0)&&decide (p0≤(p1.toNat:Int)))) (.call 1009 (s129 (U0.mk (p2.extract p0.toNat p1.toNat) 0) (Q7 (p1 - p0))) [] [] fun r158=>
 .done r158.1)
noncomputable def s128 (p0 p1:Int) (p2:ByteArray):EV.Spec Tryz.prog GG (Int):=.ofFn 128 Q8 Tryz.func128 (show FnD Tryz.prog GG [0,1,2,5,6] Tryz.f128 [.i p0,.i p1,.snap [.str p2]] (g128 p0 p1 p2) (fun r=>.int .i64 r) by unfold FnD;kernel_rfl)
noncomputable def s132 (p0:ByteArray):EV.Spec Tryz.prog GG (Unit):=.ofFnB 132 [] Q8 Tryz.func132 rfl (fun _=>rfl) (show FnB Tryz.prog GG [0,1,2] Tryz.f132 [.str p0] (Ext.of .normal (W0 [.str p0]) [] [] (by rfl)) (
 .done ():TT (Unit)) (fun(r:Unit)=>.fn 210 [] [.ptr 1 0 0]) (fun(r:Unit)=>Ext.of .normal [] [(1,⟨1,true,[[.str p0]]⟩)] [] (by rfl)) by unfold FnB;kernel_rfl)
noncomputable def g209 (p0:ByteArray):TT ((List Q4)):=
 .gh 1 (.virtC 900070 2 0 2) (.sub (subAtt p0) fun r167=>
 .gh 0 (.share (VwW.of 900070 Q6 r167) 1) (.done r167))
noncomputable def s209 (p0:ByteArray):EV.Spec Tryz.prog GG ((List Q4)):=.ofFnB 209 [] Q8 Tryz.func209 rfl (fun _=>rfl) (show FnB Tryz.prog GG [0,1,2,4,5,6,7] Tryz.f209 [.nilsl,.fn 210 [] [.ptr 1000000 0 0]] (Ext.of .normal (W0 [.nilsl,.fn 210 [] [.ptr 1000000 0 0]]) [(1000000,⟨1,true,[[.str p0]]⟩)] [] (by rfl)) (g209 p0) (fun(r:(List Q4))=>.sl false 2 (List.map Q6.c r)) (fun(r:(List Q4))=>Ext.of .normal [] [(1000000,⟨1,true,[[.str p0]]⟩)] [] (by rfl)) by unfold FnB;kernel_rfl)
noncomputable def g131 (p0:ByteArray):TT ((List Q4)):=
 .opr 1002 (Rule.callRead (s209 p0) (.func 209) #[.const (.slice none 0 0),.tmp 3] #[119,209] 4 [] [.nilsl,.fn 210 [] [.ptr 1000000 0 0]] [] [(1000000,1000000,⟨1,true,[[.str p0]]⟩)] [] [(1000000,1000000)] (by kernel_rfl) (by kernel_rfl) (by kernel_rfl) (by kernel_rfl) (by kernel_rfl) (by kernel_rfl) (by kernel_rfl) (by kernel_rfl) (by kernel_rfl) (by kernel_rfl) (fun _=>by kernel_rfl) (fun _=>⟨by kernel_rfl,by kernel_rfl⟩)) fun r168=>
 .done r168
noncomputable def s131 (p0:ByteArray):EV.Spec Tryz.prog GG ((List Q4)):=.ofFnB 131 [] Q8 Tryz.func131 rfl (fun _=>rfl) (show FnB Tryz.prog GG [0,2] Tryz.f131 [.fn 210 [] [.ptr 1000000 0 0]] (Ext.of .normal (W0 [.fn 210 [] [.ptr 1000000 0 0]]) [(1000000,⟨1,true,[[.str p0]]⟩)] [] (by rfl)) (g131 p0) (fun(r:(List Q4))=>.sl false 2 (List.map Q6.c r)) (fun(r:(List Q4))=>Ext.of .normal [] [(1000000,⟨1,true,[[.str p0]]⟩)] [] (by rfl)) by unfold FnB;kernel_rfl)
noncomputable def gDe2 (s:ByteArray):TT (Int×Int×(List Q4)):=
 .view 7002 (s128 2 4 s) [] fun r159=>
 .br 0 (decide ((s.size:Int) < (Q7 ((20:Int)+r159))))
 (.fail)
 (.view 10002 (s128 0 2 s) [] fun r160=>
  .cnd 11 []
  (.br 11004 (decide (r160 < 16384))
   (.view 11005 (s128 4 8 s) [] fun r161=>
    .br 11009 (r161==554869826)
    (.call 11015 (s130 ((s.size:Int)==(Q7 ((20:Int)+r159)))) [] [] fun r162=>
     .done ())
    (.call 11015 (s130 false) [] [] fun r163=>
     .done ()))
   (.call 11015 (s130 false) [] [] fun r164=>
    .done ()))
  (fun(c165:Unit)=>[]) fun c165=>
  .chk 12019 ((decide (0≤(20:Int))&&decide ((20:Int)≤(s.size:Int)))&&true) (.chk 12021 (decide (0≤(20:Int))&&decide ((20:Int)≤(s.size:Int))) (.call 12022 (s132 (s.extract 20 s.size)) [] [(1,500016)] fun r166=>
  .opr 12023 (Rule.callRead (s131 (s.extract 20 s.size)) (.func 131) #[.tmp 65] #[209] 66 [] [.fn 210 [] [.ptr 500016 0 0]] [] [(1000000,500016,⟨1,true,[[.str (s.extract 20 s.size)]]⟩)] [] [(1000000,500016)] (by kernel_rfl) (by kernel_rfl) (by kernel_rfl) (by kernel_rfl) (by kernel_rfl) (by kernel_rfl) (by kernel_rfl) (by kernel_rfl) (by kernel_rfl) (by kernel_rfl) (fun _=>by kernel_rfl) (fun _=>⟨by kernel_rfl,by kernel_rfl⟩)) fun r169=>
  .call 13002 (s118 (H8.mk (bOr .i64 (Y0 .i64 (Z5 .i64 r160 4) 1) (Y0 .i64 (Z5 .i64 r160 7) 2)) (bOr .i64 (bOr .i64 (Y0 .i64 r160 15) (Y0 .i64 (Z5 .i64 r160 1) 112)) (Y0 .i64 (Z5 .i64 r160 2) 3968)) (s.extract 8 20) r169)) [] [] fun r170=>
  .call 13004 (s130 (r170==0)) [] [] fun r171=>
  .done ((bOr .i64 (Y0 .i64 (Z5 .i64 r160 4) 1) (Y0 .i64 (Z5 .i64 r160 7) 2)),(bOr .i64 (bOr .i64 (Y0 .i64 r160 15) (Y0 .i64 (Z5 .i64 r160 1) 112)) (Y0 .i64 (Z5 .i64 r160 2) 3968)),r169))))
def xsDe2 (s:ByteArray):Ext:=Ext.of .normal [(1,.ptr 1 0 0),(2,.ptr 2 0 0),(3,.ptr 3 0 0),(17,.fn 127 [] [.ptr 2 0 0,.ptr 3 0 0])] [(1,⟨1,true,[[.str s]]⟩),(2,⟨4,true,[[.i 0,.i 0,.str ByteArray.empty,.nilsl]]⟩),(3,⟨1,true,[[.i 0]]⟩)] [] (by rfl)
def xeDe2 (s:ByteArray):(Int×Int×(List Q4))→Ext:=fun(r:Int×Int×(List Q4))=>Ext.of .ret [(2,.ptr 2 0 0),(3,.ptr 3 0 0)] [(2,⟨4,true,[[.i r.1,.i r.2.1,.str (s.extract 8 20),.sl false 2 (List.map Q6.c r.2.2)]]⟩),(3,⟨1,true,[[.i 0]]⟩)] [] (by rfl)
theorem kDe2 (s:ByteArray):Z9 Tryz.prog GG [1,2,3,4,5,6,17,25] 73 (cR (cR (cR cDe))) (xsDe2 s) (gDe2 s) (xeDe2 s):=by unfold Z9;kernel_rfl
end Go.Proofs.YtjpahkpfkohfkaaGreatDoor
namespace Go.Proofs.YtjpahkpfkohfkaaGreatDoor
open Go Go.EV
set_option maxRecDepth 100000
def Rule.neqNil {P:Program} {G:Nat→Option (List V)} (t u:TypeId) (ox:Operand) (d:Nat) {ms:Array (String×TypeId)} (ht:P.underlying t=some (.interface ms)):Rule P G Unit where
 op:=.binOp .neq t ox (.const .nilIface) u
 dst:=some d
 vals:=[(ox,.ifc .nilIface)]
 blks:=[]
 o:=some ()
 ws:=fun _=>[.t d (.bool false)]
 dt:=[]
 dat:=fun _ _ _ _ h=>by simp at h
 ok:=fun _ _ x st hop hdst hvs _ hd=>by
  obtain⟨hdn,hu⟩:=hd d rfl
  have key:G1 P G x st (st.put (some d) (.bool false)):=by
   rw[←hdst]
   refine L1 (by rw[hdst];simpa[H6] using hdn) fun γ a w hs=>?_
   have hx:a.eval ox=.nilIface:=(hvs (ox,.ifc .nilIface) (by simp) γ a w hs).ifc_inv
   have hr:=Lib.run_neq_nil_nil w ht
   refine⟨.bool false,?_,.data (.bool _)⟩
   have he:a.eval (.const .nilIface)=.nilIface:=rfl
   have hg:(eqGuard .neq t ox (.const .nilIface) Value.nilIface Value.nilIface:Sem Unit)=pure ():=by cases ox<;>rfl
   simp[execOp,hop,hx,he,hg,hr]
  exact key
noncomputable def deOps:Array Oper:=rOps (cL (cR (cR cDe)))
noncomputable def deO0:Oper:=(deOps[0]?).get (by kernel_rfl)
noncomputable def deO1:Oper:=(deOps[1]?).get (by kernel_rfl)
theorem eDe:Tryz.f60.body=some ([cL cDe,cL (cR cDe)].foldr Code.seq (.seq (.region 5 #[deO0,deO1] false) (cR (cR (cR cDe))))):=by kernel_rfl
noncomputable def c1De:Code:=Tryz.f127.body.getD .skip
noncomputable def d1Ops:Array Oper:=rOps (cL c1De)
noncomputable def d1O0:Oper:=(d1Ops[0]?).get (by kernel_rfl)
noncomputable def d1O1:Oper:=(d1Ops[1]?).get (by kernel_rfl)
theorem e1De:Tryz.f127.body=some (.seq (.region 0 #[d1O0,d1O1] false) (cR c1De)):=by kernel_rfl
def x1De:Ext:=Ext.of .normal [(2,.ifc .nilIface),(5,.ifc .nilIface)] [] [] (by rfl)
def x1De2:Ext:=Ext.of .normal [] [] [] (by rfl)
def g1De:TT Unit:=.opr 1002 (Rule.neqNil (ms:=#[]) 20 20 (.tmp 6) 7 (by kernel_rfl)) fun _=>.ff (.done ())
theorem k1De:Z9 Tryz.prog GG [2,5,7] 17 (cR c1De) x1De g1De (fun _=>x1De2):=by unfold Z9;kernel_rfl
theorem callD1:CallD Tryz.prog GG 127 [.undef,.undef] noB .returning .returning noB:=by
 refine callD_body (n:=17) (t1:=5) (t2:=2) (rv:=.nilIface) Tryz.func127 e1De (by kernel_rfl) (by kernel_rfl) (by kernel_rfl) (by kernel_rfl) (by kernel_rfl) (by kernel_rfl) (by kernel_rfl) (by decide) (by decide) rfl (.inl ⟨rfl,rfl,rfl⟩) (by kernel_rfl) ?_
 have h:=(k1De).tv Q8 (r:=()) rfl (by rfl)
 have g:Gst GG (((entry 17 [.undef,.undef] noB).put (some 5) (.ifc .nilIface)).put (some 2) (.ifc .nilIface)) ((x1De.D 17).st):=X6 x1De (by rfl) rfl ⟨by rfl,by rfl⟩
 exact(TV.ghost g h).mono fun e s hq=>⟨.inl hq.1,fun b k hk=>by simp[noB] at hk⟩
noncomputable def decM (s:ByteArray):Option (H8×Int):=
 (gDe1 s).run.bind fun _=>(gDe2 s).run.bind fun r=>some (⟨r.1,r.2.1,s.extract 8 20,r.2.2⟩,0)
theorem resDe (s:ByteArray) (r:Int×Int×List Q4):F0 Tryz.prog ((xeDe2 s r).D 73).st Tryz.f60.results.toList=some (.tup [.agg [.int .i64 r.1,.int .i64 r.2.1,.str (s.extract 8 20),.sl false 2 (List.map Q6.c r.2.2)],.int .i64 0]):=by kernel_rfl
theorem flatDe {γ:Gh} {w:World} {bs bs':Nat→Option Blk} {u u':Nat→Bool} {a b e:Int} {s:ByteArray} {l:List Q4} {v:Value} (h:Rep γ w bs u (.tup [.agg [.int .i64 a,.int .i64 b,.str s,.sl false 2 (List.map Q6.c l)],.int .i64 e]) v) :
  Rep γ w bs' u' (.tup [.agg [.int .i64 a,.int .i64 b,.str s,.sl false 2 (List.map Q6.c l)],.int .i64 e]) v:=
 Rep.dataMono (γ:=γ) (γ':=γ) (fun B o v h1 h2=>⟨h1,h2⟩) h (by rfl)
theorem dec_ok (s:ByteArray) {r:H8×Int} (h:decM s=some r):CallC Tryz.prog GG 60 [.str s] (ofL []) (.tup [.agg [.int .i64 r.1.fClass,.int .i64 r.1.fMethod,.str r.1.fId,.sl false 2 (List.map Q6.c r.1.fAttrs)],.int .i64 r.2]) (ofL []):=by
 unfold decM at h
 obtain⟨u1,h1,h⟩:=Option.bind_eq_some_iff.1 h
 obtain⟨u2,h2,h⟩:=Option.bind_eq_some_iff.1 h
 obtain rfl:=Option.some.inj h
 have e0:entry 73 [.str s] (ofL [])=((xsDe0 s).D 73).st:=(entry_ext (x:=xsDe0 s) (by rfl) (by rfl) 73).symm
 have t0:=(kDe0 s).tv Q8 (r:=()) rfl (by rfl)
 have t1:=(kDe1 s).tv Q8 h1 (by rfl)
 have t2:=(kDe2 s).tv Q8 h2 (by rfl)
 have hnoB:(ofL []:Nat→Option Blk)=noB:=rfl
 have hx:((xeDe1 s u1).D 73).st=((xeDe1 s ()).D 73).st:=rfl
 rw[hnoB] at e0 ⊢
 have st5:StepV Tryz.prog GG #[deO0,deO1] 0 ((xeDe1 s ()).D 73).st (((xeDe1 s ()).D 73).st.put (some 17) (.fn 127 [] [.ptr 2 0 0,.ptr 3 0 0])):=stepG_spec (by rfl)
 have g0:D8 #[deO0,deO1] ((xeDe1 s ()).D 73).st deO0=some true:=by rfl
 have h0:G1 Tryz.prog GG deO0 ((xeDe1 s ()).D 73).st (((xeDe1 s ()).D 73).st.put (some 17) (.fn 127 [] [.ptr 2 0 0,.ptr 3 0 0])):=by
  unfold StepV at st5
  simp only[show (#[deO0,deO1]:Array Oper)[0]?=some deO0 from rfl] at st5
  rcases st5 with⟨_,h⟩|⟨h,_⟩
  ·exact h
  ·rw[g0] at h;simp at h
 have gB:Gst GG (((xeDe1 s ()).D 73).st.put (some 17) (.fn 127 [] [.ptr 2 0 0,.ptr 3 0 0])) ((xsDe2 s).D 73).st:=X6 (xsDe2 s) (by rfl) rfl ⟨by rfl,by rfl⟩
 refine callC_defer0 (As:=[cL cDe,cL (cR cDe)]) (rest:=cR (cR (cR cDe))) (rid:=5) (t:=17) (n:=73) (o0:=deO0) (o1:=deO1) (caps:=[.ptr 2 0 0,.ptr 3 0 0]) (S1:=((xeDe1 s ()).D 73).st) (S2:=((xeDe2 s u2).D 73).st) (ex:=.ret)
  Tryz.func60 eDe (by kernel_rfl) ?_ h0 g0 (by kernel_rfl) (by kernel_rfl) (by rfl) ((TV.ghost gB t2).mono fun e s hq=>hq) (.inl rfl) (show 17 < 73 by decide) Tryz.func127 (by kernel_rfl) (by kernel_rfl) callD1 (resDe s u2) fun γ w v h=>flatDe h
 rw[e0]
 show TV _ _ (cL cDe) _ _
 refine t0.mono fun e st hq=>?_
 obtain⟨rfl,g⟩:=hq
 show TV _ _ (cL (cR cDe)) _ _
 exact TV.ghost g (t1.mono fun e st hq=>⟨hq.1,by rw[←hx];exact hq.2⟩)
noncomputable def decSpec (s:ByteArray):EV.Spec Tryz.prog GG (H8×Int):=
 ⟨60,[.str s],[],decM s,fun r=>.tup [.agg [.int .i64 r.1.fClass,.int .i64 r.1.fMethod,.str r.1.fId,.sl false 2 (List.map Q6.c r.1.fAttrs)],.int .i64 r.2],fun _=>[],[],fun _ _ h=>by simp at h,fun r h=>dec_ok s h⟩
end Go.Proofs.YtjpahkpfkohfkaaGreatDoor
namespace Go.Proofs.YtjpahkpfkohfkaaGreatDoor
open Go Go.EV
set_option maxRecDepth 100000
structure Z2 where
 fHost:ByteArray
 fPort:Int
structure SHost where
 fs:ByteArray
structure Y6 where
 fKind:Int
 fId:Int
 fPriority:Int
 fControlling:Bool
 fTie:Int
 fUse:Bool
 fSeen:Z2
structure Q3 where
 fKind:Int
 fComponent:Int
 fPriority:Int
 fFoundation:ByteArray
 fAddr:Z2
 fBase:Z2
structure Q9 where
 fLocal:Int
 fRemote:Int
 fPriority:Int
 fState:Int
structure Y8 where
 fControlling:Bool
 fLocals:(List Q3)
 fRemotes:(List Q3)
 fPairs:(List Q9)
structure M4 where
 fList:Y8
structure SLike where
 fbase:Z2
 faddr:Z2
 fcomponent:Int
structure C0 where
 fk:SLike
 fv:Bool
def Q0:Ty Q3:=⟨fun x=>[.i x.fKind,.i x.fComponent,.i x.fPriority,.str x.fFoundation,.str x.fAddr.fHost,.i x.fAddr.fPort,.str x.fBase.fHost,.i x.fBase.fPort],fun x=>[.i x.fKind,.i x.fComponent,.i x.fPriority,.str x.fFoundation,.str x.fAddr.fHost,.i x.fAddr.fPort,.str x.fBase.fHost,.i x.fBase.fPort],fun _=>rfl,fun _=>rfl,fun _ _=>rfl,fun _=>rfl⟩
def Q2:Ty Q9:=⟨fun x=>[.i x.fLocal,.i x.fRemote,.i x.fPriority,.i x.fState],fun x=>[.i x.fLocal,.i x.fRemote,.i x.fPriority,.i x.fState],fun _=>rfl,fun _=>rfl,fun _ _=>rfl,fun _=>rfl⟩
def C4:Ty C0:=⟨fun x=>[.str x.fk.fbase.fHost,.i x.fk.fbase.fPort,.str x.fk.faddr.fHost,.i x.fk.faddr.fPort,.i x.fk.fcomponent,.bool x.fv],fun x=>[.str x.fk.fbase.fHost,.i x.fk.fbase.fPort,.str x.fk.faddr.fHost,.i x.fk.faddr.fPort,.i x.fk.fcomponent,.bool x.fv],fun _=>rfl,fun _=>rfl,fun _ _=>rfl,fun _=>rfl⟩
noncomputable def s126 (p0:H8) (p1:List Q4) (p2:Int):EV.Spec Tryz.prog GG (ByteArray):=wrSpec p0.fClass p0.fMethod p0.fId p0.fAttrs p1 p2
noncomputable def s195 (p0:Q4) (p1:Int):EV.Spec Tryz.prog GG (Bool):=.ofFn 195 Q8 Tryz.func195 (show FnD Tryz.prog GG [0,1,2,3] Tryz.f195 [.agg (Q6.c p0),.snap [.i p1]] (
 .done (p0.fKind==p1):TT (Bool)) (fun r=>.bool r) by unfold FnD;kernel_rfl)
noncomputable def g133 (p0:List Q4) (p1:Int):TT (Int):=
 .bind2 1
 (.lp (fun(l176:Int)=>Ext.lit .normal [(0,.sl false 2 (List.map Q6.c p0)),(1,.fn 195 [] [.snap [.i p1]]),(4,.i 0),(7,.i (Y5 Q6 p0)),(8,.i l176)] [])
  (fun l176=>
   .br 0 (decide (l176 < (Y5 Q6 p0)))
   (.row 4004 Q6 p0 l176.toNat (decide (0≤l176)) fun x177=>
    .call 4006 (s195 x177 p1) [] [] fun r178=>
    .br 0 r178
    (.done (.inr (.inl l176)))
    (.done (.inl (Q7 (l176+1)))))
   (.done (.inr (.inr ()))))
  0)
 (fun(e179:Int)=>Ext.lit .ret [(4,.i e179)] [])
 (fun(e180:Unit)=>Ext.lit (.exit 0) [(4,.i 0)] [])
 (fun e179=>
  .done e179)
 (fun e180=>
  .done (-1))
noncomputable def s133 (p0:List Q4) (p1:Int):EV.Spec Tryz.prog GG (Int):=.ofFn 133 Q8 Tryz.func133 (show FnD Tryz.prog GG [0,1,4,5,7,8,9,16] Tryz.f133 [.sl false 2 (List.map Q6.c p0),.fn 195 [] [.snap [.i p1]]] (g133 p0 p1) (fun r=>.int .i64 r) by unfold FnD;kernel_rfl)
noncomputable def g194 (p0:List Q4) (p1:Int):TT (Bool):=
 .call 1003 (s133 p0 p1) [] [] fun r181=>
 .done (decide ((0:Int)≤r181))
noncomputable def s194 (p0:List Q4) (p1:Int):EV.Spec Tryz.prog GG (Bool):=.ofFn 194 Q8 Tryz.func194 (show FnD Tryz.prog GG [0,1,4] Tryz.f194 [.sl false 2 (List.map Q6.c p0),.fn 195 [] [.snap [.i p1]]] (g194 p0 p1) (fun r=>.bool r) by unfold FnD;kernel_rfl)
noncomputable def g119 (p0:H8) (p1:Int):TT (Bool):=
 .view 1004 (s194 p0.fAttrs p1) [] fun r182=>
 .done r182
noncomputable def s119 (p0:H8) (p1:Int):EV.Spec Tryz.prog GG (Bool):=.ofFn 119 Q8 Tryz.func119 (show FnD Tryz.prog GG [0,1,2,3,4] Tryz.f119 [.agg [.i p0.fClass,.i p0.fMethod,.str p0.fId,.sl false 2 (List.map Q6.c p0.fAttrs)],.i p1] (g119 p0 p1) (fun r=>.bool r) by unfold FnD;kernel_rfl)
noncomputable def g121 (p0:H8) (p1:List Q4) (p2:ByteArray):TT (ByteArray):=
 .call 1004 (s126 p0 p1 36) [] [] fun r176=>
 .call 1005 (s197 p2 r176) [] [] fun r177=>
 .done r177.1
noncomputable def s121 (p0:H8) (p1:List Q4) (p2:ByteArray):EV.Spec Tryz.prog GG (ByteArray):=.ofFn 121 Q8 Tryz.func121 (show FnD Tryz.prog GG [0,1,2,3,6,7] Tryz.f121 [.agg [.i p0.fClass,.i p0.fMethod,.str p0.fId,.sl false 2 (List.map Q6.c p0.fAttrs)],.sl false 2 (List.map Q6.c p1),.str p2] (g121 p0 p1 p2) (fun r=>.str r) by unfold FnD;kernel_rfl)
noncomputable def g196 (p0:List Q4):TT Unit:=.app 3003 Q6 [] p0 24 true (by intros;rfl) (.done ())
theorem k196y:Z9 Tryz.prog GG [2] 8 (A4 Tryz.f196.body) (Ext.lit .normal [(2,.nilsl)] []) (.done ():TT Unit) (fun _=>Ext.lit .ret [(2,.nilsl)] []):=by unfold Z9;kernel_rfl
theorem k196r (p0:List Q4):Z9 Tryz.prog GG [0,2,5,6,7] 8 (D1 Tryz.f196.body) (Ext.lit .normal [(0,.sl false 2 (List.map Q6.c p0)),(2,.nilsl)] []) (g196 p0) (fun _=>Ext.of .ret [(2,.ref 7 0 ([]++p0).length)] [] [BT.of 7 Q6 2 ([]++p0)] (by rfl)):=by unfold Z9;kernel_rfl
theorem k196 (p0:(List Q4)) {r:Unit} (h:(g196 p0).run=some r):CallC Tryz.prog GG 196 [.sl false 2 (List.map Q6.c p0)] (ofL []) (.ref 7 0 p0.length) (ofL [(7,⟨2,true,List.map Q6.c p0⟩)]):=
 clone_ok (ty:=Q6) (ops0:=T3 Tryz.f196.body) (ops1:=T2 Tryz.f196.body) (yes:=A4 Tryz.f196.body) (rest:=D1 Tryz.f196.body) (t:=119) Q8 (by decide) Tryz.func196 (by kernel_rfl) (by kernel_rfl) (by kernel_rfl) (by kernel_rfl) (by kernel_rfl) (by kernel_rfl) (by kernel_rfl) (by kernel_rfl) (by kernel_rfl) k196y (k196r p0) (by rfl) h
noncomputable def s196 (p0:List Q4):EV.Spec Tryz.prog GG Unit:=⟨196,[.sl false 2 (List.map Q6.c p0)],[],(g196 p0).run,fun _=>.ref 7 0 p0.length,fun _=>[(7,⟨2,true,List.map Q6.c p0⟩)],[7],fun _ p hp _=>by
 rw[List.mem_singleton.1 hp];exact Q6.data _,fun _ h=>k196 p0 h⟩
noncomputable def g120 (p0:H8) (p1:Q4):TT (H8×Int):=
 .call 1003 (s196 p0.fAttrs) [] [(7,500017)] fun r179=>
 .app 1006 Q6 p0.fAttrs [p1] 24 false (by intro h;cases h) (.view 2002 (s118 (H8.mk p0.fClass p0.fMethod p0.fId (p0.fAttrs++[p1]))) [(VwW.of 11 Q6 (p0.fAttrs++[p1]))] fun r180=>
 .br 0 (r180 != 0)
 (.done ((H8.mk 0 0 ByteArray.empty []),3))
 (.gh 0 (.share (VwW.of 11 Q6 (p0.fAttrs++[p1])) 1) (.done ((H8.mk p0.fClass p0.fMethod p0.fId (p0.fAttrs++[p1])),0))))
noncomputable def s120 (p0:H8) (p1:Q4):EV.Spec Tryz.prog GG (H8×Int):=.ofFn 120 Q8 Tryz.func120 (show FnD Tryz.prog GG [0,1,2,3,4,5,15] Tryz.f120 [.agg [.i p0.fClass,.i p0.fMethod,.str p0.fId,.sl false 2 (List.map Q6.c p0.fAttrs)],.agg (Q6.c p1)] (g120 p0 p1) (fun r=>.tup [.agg [.i r.1.fClass,.i r.1.fMethod,.str r.1.fId,.sl false 2 (List.map Q6.c r.1.fAttrs)],.i r.2]) by unfold FnD;kernel_rfl)
noncomputable def g57 (p0:H8) (p1:ByteArray):TT (H8×Int):=
 .call 1002 (s118 p0) [] [] fun r172=>
 .br 0 (r172 != 0)
 (.done ((H8.mk 0 0 ByteArray.empty []),r172))
 (.br 0 (decide ((4096:Int) < (p1.size:Int)))
  (.done ((H8.mk 0 0 ByteArray.empty []),3))
  (.cnd 6 [19]
   (.call 6002 (s119 p0 8) [] [] fun r173=>
    .br 6004 r173
    (.done true)
    (.call 6005 (s119 p0 32808) [] [] fun r174=>
     .done r174))
   (fun(c175:Bool)=>[.bool c175]) fun c175=>
   .br 0 c175
   (.done ((H8.mk 0 0 ByteArray.empty []),2))
   (.call 8006 (s121 p0 p0.fAttrs p1) [] [] fun r178=>
    .call 8008 (s120 p0 (Q4.mk 8 r178)) [] [] fun r181=>
    .done (r181.1,r181.2))))
noncomputable def s57 (p0:H8) (p1:ByteArray):EV.Spec Tryz.prog GG (H8×Int):=.ofFn 57 Q8 Tryz.func57 (show FnD Tryz.prog GG [0,1,2,4,5,6,9,14,19] Tryz.f57 [.agg [.i p0.fClass,.i p0.fMethod,.str p0.fId,.sl false 2 (List.map Q6.c p0.fAttrs)],.str p1] (g57 p0 p1) (fun r=>.tup [.agg [.i r.1.fClass,.i r.1.fMethod,.str r.1.fId,.sl false 2 (List.map Q6.c r.1.fAttrs)],.i r.2]) by unfold FnD;kernel_rfl)
noncomputable def g59 (p0:H8):TT (ByteArray×Int):=
 .call 1002 (s118 p0) [] [] fun r182=>
 .br 0 (r182 != 0)
 (.done (ByteArray.empty,r182))
 (.call 4004 (s126 p0 p0.fAttrs 0) [] [] fun r183=>
  .done (r183,0))
noncomputable def s59 (p0:H8):EV.Spec Tryz.prog GG (ByteArray×Int):=.ofFn 59 Q8 Tryz.func59 (show FnD Tryz.prog GG [0,1,2,3,4,8] Tryz.f59 [.agg [.i p0.fClass,.i p0.fMethod,.str p0.fId,.sl false 2 (List.map Q6.c p0.fAttrs)]] (g59 p0) (fun r=>.tup [.str r.1,.i r.2]) by unfold FnD;kernel_rfl)
noncomputable def s134 (p0:Q4):EV.Spec Tryz.prog GG (Bool):=.ofFn 134 Q8 Tryz.func134 (show FnD Tryz.prog GG [0,1,2] Tryz.f134 [.agg (Q6.c p0)] (
 .done (p0.fKind==8):TT (Bool)) (fun r=>.bool r) by unfold FnD;kernel_rfl)
noncomputable def g133_1 (p0:List Q4):TT (Int):=
 .bind2 1
 (.lp (fun(l189:Int)=>Ext.lit .normal [(0,.sl false 2 (List.map Q6.c p0)),(1,.fn 134 [] []),(4,.i 0),(7,.i (Y5 Q6 p0)),(8,.i l189)] [])
  (fun l189=>
   .br 0 (decide (l189 < (Y5 Q6 p0)))
   (.row 4004 Q6 p0 l189.toNat (decide (0≤l189)) fun x190=>
    .call 4006 (s134 x190) [] [] fun r191=>
    .br 0 r191
    (.done (.inr (.inl l189)))
    (.done (.inl (Q7 (l189+1)))))
   (.done (.inr (.inr ()))))
  0)
 (fun(e192:Int)=>Ext.lit .ret [(4,.i e192)] [])
 (fun(e193:Unit)=>Ext.lit (.exit 0) [(4,.i 0)] [])
 (fun e192=>
  .done e192)
 (fun e193=>
  .done (-1))
noncomputable def s133_1 (p0:List Q4):EV.Spec Tryz.prog GG (Int):=.ofFn 133 Q8 Tryz.func133 (show FnD Tryz.prog GG [0,1,4,5,7,8,9,16] Tryz.f133 [.sl false 2 (List.map Q6.c p0),.fn 134 [] []] (g133_1 p0) (fun r=>.int .i64 r) by unfold FnD;kernel_rfl)
noncomputable def g61 (p0:H8) (p1:ByteArray):TT (Int):=
 .call 1002 (s118 p0) [] [] fun r184=>
 .br 0 (r184 != 0)
 (.done r184)
 (.br 0 (decide ((4096:Int) < (p1.size:Int)))
  (.done 3)
  (.call 6002 (s119 p0 8) [] [] fun r185=>
   .br 0 (!r185)
   (.done 4)
   (.call 8003 (s133_1 p0.fAttrs) [] [] fun r194=>
    .row 9004 Q6 p0.fAttrs r194.toNat (decide (0≤r194)) fun x195=>
    .chk 9011 (decide (0≤r194)&&decide (r194≤((mlenn Q6 p0.fAttrs):Int))) (.re 9011 (ReW.cutHi 34 2 Q6 p0.fAttrs r194.toNat) (.call 9013 (s121 p0 (p0.fAttrs.take r194.toNat) p1) [] [] fun r196=>
    .br 0 (!decide (x195.fValue=r196))
    (.done 9)
    (.done 0))))))
noncomputable def s61 (p0:H8) (p1:ByteArray):EV.Spec Tryz.prog GG (Int):=.ofFn 61 Q8 Tryz.func61 (show FnD Tryz.prog GG [0,1,2,4,5,6,9,13,17,37] Tryz.f61 [.agg [.i p0.fClass,.i p0.fMethod,.str p0.fId,.sl false 2 (List.map Q6.c p0.fAttrs)],.str p1] (g61 p0 p1) (fun r=>.int .i64 r) by unfold FnD;kernel_rfl)
noncomputable def g135 (p0:ByteArray):TT (Int):=
 .opr 2002 (Rule.octets (ty:=H2) (s:=9) (t:=73) (e:=5) (.tmp 6) 7 p0 (by kernel_rfl) (by kernel_rfl) (by kernel_rfl) (by kernel_rfl) (fun _=>rfl)) fun _=>
 .bind 1
 (.lp (fun(l199:Int×Int)=>Ext.of .normal [(2,.i 0),(3,.i l199.1),(7,.ref 7 0 ((Z3 p0).length)),(8,.i ((Z3 p0).length:Int)),(9,.i l199.2)] [] [BT.of 7 H2 1 (Z3 p0) true] (by rfl))
  (fun l199=>
   .br 0 (decide (l199.2 < ((Z3 p0).length:Int)))
   (.chk 4001 (decide (0≤l199.2)&&decide (l199.2 < ((Z3 p0).length:Int))) (.row 4002 H2 (Z3 p0) (0+l199.2.toNat) true fun x200=>
    .done (.inl ((bOr .i64 (bShl .i64 l199.1 8) (Q7 x200)),(Q7 (l199.2+1))))))
   (.done (.inr l199.1)))
  (0,0))
 (fun(e201:Int)=>Ext.lit (.exit 0) [(2,.i 0),(3,.i e201)] [])
 (fun e201=>
  .done e201)
noncomputable def s135 (p0:ByteArray):EV.Spec Tryz.prog GG (Int):=.ofFn 135 Q8 Tryz.func135 (show FnD Tryz.prog GG [0,2,3,5,7,8,9,10] Tryz.f135 [.str p0] (g135 p0) (fun r=>.int .i64 r) by unfold FnD;kernel_rfl)
noncomputable def s201 (p0:ByteArray):EV.Spec Tryz.prog GG (ByteArray):=.ofFn 201 Q8 Tryz.func201 (show FnD Tryz.prog GG [0,2,3] Tryz.f201 [.str p0] (
 .call 1001 (s198 4 554869826) [] [] fun r210=>
 .chk 2003 (decide (r210.1.size+p0.size≤9223372036854775807)) (.done (r210.1++p0)):TT (ByteArray)) (fun r=>.str r) by unfold FnD;kernel_rfl)
noncomputable def s200 (p0 p1:ByteArray):EV.Spec Tryz.prog GG (ByteArray):=.ofFn 200 Q8 Tryz.func200 (show FnD Tryz.prog GG [0,1,4,5,6,10,11,12] Tryz.f200 [.str p0,.str p1] (
 .opr 1002 (Rule.octets (ty:=H2) (s:=9) (t:=73) (e:=5) (.tmp 7) 8 p0 (by kernel_rfl) (by kernel_rfl) (by kernel_rfl) (by kernel_rfl) (fun _=>rfl)) fun _=>
 .bind 1
 (.lp (fun(l215:(List Int)×Int)=>Ext.of .normal [(1,.str p1),(4,.str ByteArray.empty),(5,.ref 8 0 l215.1.length),(10,.i ((Z3 p0).length:Int)),(11,.i l215.2)] [] [BT.of 8 H2 1 l215.1 true] (by rfl))
  (fun l215=>
   .br 0 (decide (l215.2 < ((Z3 p0).length:Int)))
   (.chk 5003 (decide (0≤l215.2)&&decide (l215.2 < (l215.1.length:Int))) (.row 5004 H2 l215.1 (0+l215.2.toNat) true fun x216=>
    .chk 5007 (decide (0≤l215.2∧l215.2 < (p1.size:Int))) (.chk 5009 (decide (0≤l215.2)&&decide (l215.2 < (l215.1.length:Int))) (.row 5010 H2 l215.1 (0+l215.2.toNat) true fun x217=>
    .re 5010 (ReW.put 8 1 H2 l215.1 (0+l215.2.toNat) (P9 .u8 x216 (bAt p1 l215.2))) (.gh 8 (.len 8 ((l215.1.set (0+l215.2.toNat) (P9 .u8 x216 (bAt p1 l215.2))).length) [l215.1.length] (by simp)) (.done (.inl ((l215.1.set (0+l215.2.toNat) (P9 .u8 x216 (bAt p1 l215.2))),(Q7 (l215.2+1))))))))))
   (.done (.inr l215.1)))
  ((Z3 p0),0))
 (fun(e218:(List Int))=>Ext.of (.exit 0) [(4,.str ByteArray.empty),(5,.ref 8 0 e218.length)] [] [BT.of 8 H2 1 e218 true] (by rfl))
 (fun e218=>
  .opr 7002 (Rule.textOf (ty:=H2) (s:=73) (t:=9) (e:=5) (.tmp 24) 25 8 e218 e218.length (by kernel_rfl) (by kernel_rfl) (by kernel_rfl) (by simp) (fun _=>rfl)) fun _=>
  .done (strOfNums e218)):TT (ByteArray)) (fun r=>.str r) by unfold FnD;kernel_rfl)
noncomputable def g179 (p0:ByteArray):TT (SHost×Int):=
 .cnd 1 [11]
 (.br 1005 ((p0.size:Int) != 4)
  (.done ((p0.size:Int) != 16))
  (.done false))
 (fun(c223:Bool)=>[.bool c223]) fun c223=>
 .br 0 c223
 (.done ((SHost.mk ByteArray.empty),2))
 (.done ((SHost.mk p0),0))
noncomputable def s179 (p0:ByteArray):EV.Spec Tryz.prog GG (SHost×Int):=.ofFn 179 Q8 Tryz.func179 (show FnD Tryz.prog GG [0,2,3,11] Tryz.f179 [.str p0] (g179 p0) (fun r=>.tup [.agg [.str r.1.fs],.i r.2]) by unfold FnD;kernel_rfl)
noncomputable def s199 (p0:ByteArray):EV.Spec Tryz.prog GG (Int×Int):=.ofFn 199 Q8 Tryz.func199 (show FnD Tryz.prog GG [0,2,3,5,12,16] Tryz.f199 [.str p0] (
 .call 1002 (s179 p0) [] [] fun r224=>
 .br 0 (r224.2 != 0)
 (.done (0,r224.2))
 (.br 0 ((p0.size:Int)==4)
  (.done (1,0))
  (.done (2,0))):TT (Int×Int)) (fun r=>.tup [.int .i64 r.1,.int .i64 r.2]) by unfold FnD;kernel_rfl)
noncomputable def g101 (p0:Z2):TT (Int):=
 .call 1003 (s179 p0.fHost) [] [] fun r226=>
 .cnd 2 [22]
 (.br 2004 (r226.2 != 0)
  (.done true)
  (.br 2009 (decide (p0.fPort < 0))
   (.done true)
   (.done (decide ((65535:Int) < p0.fPort)))))
 (fun(c227:Bool)=>[.bool c227]) fun c227=>
 .br 0 c227
 (.done 2)
 (.done 0)
noncomputable def s101 (p0:Z2):EV.Spec Tryz.prog GG (Int):=.ofFn 101 Q8 Tryz.func101 (show FnD Tryz.prog GG [0,1,2,4,22] Tryz.f101 [.agg [.str p0.fHost,.i p0.fPort]] (g101 p0) (fun r=>.int .i64 r) by unfold FnD;kernel_rfl)
noncomputable def s124 (p0:ByteArray) (p1:Z2):EV.Spec Tryz.prog GG (ByteArray×Int):=.ofFn 124 Q8 Tryz.func124 (show FnD Tryz.prog GG [0,1,3,4,5,6,7,8,27] Tryz.f124 [.str p0,.agg [.str p1.fHost,.i p1.fPort]] (
 .call 1003 (s199 p1.fHost) [] [] fun r225=>
 .cnd 2 [27]
 (.br 2004 (r225.2 != 0)
  (.done true)
  (.call 2005 (s101 p1) [] [] fun r228=>
   .br 2009 (r228 != 0)
   (.done true)
   (.done ((p0.size:Int) != 12))))
 (fun(c229:Bool)=>[.bool c229]) fun c229=>
 .br 0 c229
 (.done (ByteArray.empty,2))
 (.call 4003 (s198 2 p1.fPort) [] [] fun r230=>
  .call 5007 (s201 p0) [] [] fun r231=>
  .call 5008 (s200 r230.1 r231) [] [] fun r232=>
  .chk 5009 (decide ((strOfNums [0,(wu8 r225.1)]).size+r232.size≤9223372036854775807)) (.call 5013 (s201 p0) [] [] fun r233=>
  .call 5014 (s200 p1.fHost r233) [] [] fun r234=>
  .chk 5015 (decide (((strOfNums [0,(wu8 r225.1)])++r232).size+r234.size≤9223372036854775807)) (.done ((((strOfNums [0,(wu8 r225.1)])++r232)++r234),0)))):TT (ByteArray×Int)) (fun r=>.tup [.str r.1,.int .i64 r.2]) by unfold FnD;kernel_rfl)
noncomputable def s136 (p0 p1:ByteArray):EV.Spec Tryz.prog GG (Z2×Int):=.ofFn 136 Q8 Tryz.func136 (show FnD Tryz.prog GG [0,1,4,5,6,9,10,11,14,23,55] Tryz.f136 [.str p0,.str p1] (
 .br 0 ((p0.size:Int) != 12)
 (.done ((Z2.mk ByteArray.empty 0),2))
 (.cnd 3 [23]
  (.br 3005 ((p1.size:Int) != 8)
   (.done ((p1.size:Int) != 20))
   (.done false))
  (fun(c209:Bool)=>[.bool c209]) fun c209=>
  .br 0 c209
  (.done ((Z2.mk ByteArray.empty 0),5))
  (.chk 5002 ((decide (0≤(4:Int))&&decide ((4:Int)≤(p1.size:Int)))&&true) (.call 5004 (s201 p0) [] [] fun r211=>
   .call 5005 (s200 (p1.extract 2 4) r211) [] [] fun r219=>
   .call 5007 (s129 (U0.mk r219 0) 2) [] [] fun r220=>
   .chk 6002 (decide (0≤(4:Int))&&decide ((4:Int)≤(p1.size:Int))) (.call 6004 (s201 p0) [] [] fun r221=>
   .call 6005 (s200 (p1.extract 4 p1.size) r221) [] [] fun r222=>
   .call 7003 (s124 p0 (Z2.mk r222 r220.1)) [] [] fun r235=>
   .cnd 8 [55]
   (.br 8004 (r235.2 != 0)
    (.done true)
    (.done (!decide (r235.1=p1))))
   (fun(c236:Bool)=>[.bool c236]) fun c236=>
   .br 0 c236
   (.done ((Z2.mk ByteArray.empty 0),5))
   (.done ((Z2.mk r222 r220.1),0)))))):TT (Z2×Int)) (fun r=>.tup [.agg [.str r.1.fHost,.int .i64 r.1.fPort],.int .i64 r.2]) by unfold FnD;kernel_rfl)
noncomputable def s62 (p0:H8):EV.Spec Tryz.prog GG (Y6):=.ofFn 62 Q8 Tryz.func62 (show FnD Tryz.prog GG [0,1,2,3,5,12,13,14,15,18,33,57,62] Tryz.f62 [.agg [.i p0.fClass,.i p0.fMethod,.str p0.fId,.sl false 2 (List.map Q6.c p0.fAttrs)]] (
 .chk 1003 (decide (0≤(5:Int))&&decide ((5:Int)≤(p0.fId.size:Int))) (.call 1004 (s135 (p0.fId.extract 5 p0.fId.size)) [] [] fun r202=>
 .bind 1
 (.lp (fun(l210:Int×Int×Bool×Int×Bool×ByteArray×Int×Int)=>Ext.lit .normal [(1,.ptr 1 0 0),(2,.ptr 2 0 0),(3,.ptr 3 0 0),(12,.sl false 2 (List.map Q6.c p0.fAttrs)),(13,.i (Y5 Q6 p0.fAttrs)),(14,.i l210.2.2.2.2.2.2.2)] [(1,⟨4,true,[[.i p0.fClass,.i p0.fMethod,.str p0.fId,.sl false 2 (List.map Q6.c p0.fAttrs)]]⟩),(2,⟨8,true,[[.i 0,.i 0,.i 0,.bool false,.i 0,.bool false,.str ByteArray.empty,.i 0]]⟩),(3,⟨8,true,[[.i l210.1,.i r202,.i l210.2.1,.bool l210.2.2.1,.i l210.2.2.2.1,.bool l210.2.2.2.2.1,.str l210.2.2.2.2.2.1,.i l210.2.2.2.2.2.2.1]]⟩)])
  (fun l210=>
   .br 0 (decide (l210.2.2.2.2.2.2.2 < (Y5 Q6 p0.fAttrs)))
   (.row 4001 Q6 p0.fAttrs l210.2.2.2.2.2.2.2.toNat (decide (0≤l210.2.2.2.2.2.2.2)) fun x211=>
    .cnd 5 [18]
    (.br 5005 (x211.fKind==36)
     (.done ((x211.fValue.size:Int)==4))
     (.done false))
    (fun(c212:Bool)=>[.bool c212]) fun c212=>
    .br 0 c212
    (.call 6003 (s135 x211.fValue) [] [] fun r213=>
     .done (.inl (1,r213,l210.2.2.1,l210.2.2.2.1,l210.2.2.2.2.1,l210.2.2.2.2.2.1,l210.2.2.2.2.2.2.1,(Q7 (l210.2.2.2.2.2.2.2+1)))))
    (.cnd 7 [33]
     (.br 7005 (x211.fKind==32810)
      (.done ((x211.fValue.size:Int)==8))
      (.br 7010 (x211.fKind==32809)
       (.done ((x211.fValue.size:Int)==8))
       (.done false)))
     (fun(c214:Bool)=>[.bool c214]) fun c214=>
     .br 0 c214
     (.chk 8006 (decide (0≤(1:Int))&&decide ((1:Int)≤(x211.fValue.size:Int))) (.call 8007 (s135 (x211.fValue.extract 1 x211.fValue.size)) [] [] fun r215=>
      .done (.inl (l210.1,l210.2.1,(x211.fKind==32810),r215,l210.2.2.2.2.1,l210.2.2.2.2.2.1,l210.2.2.2.2.2.2.1,(Q7 (l210.2.2.2.2.2.2.2+1))))))
     (.br 0 (x211.fKind==37)
      (.done (.inl (l210.1,l210.2.1,l210.2.2.1,l210.2.2.2.1,true,l210.2.2.2.2.2.1,l210.2.2.2.2.2.2.1,(Q7 (l210.2.2.2.2.2.2.2+1)))))
      (.br 0 (x211.fKind==32)
       (.call 13005 (s136 p0.fId x211.fValue) [] [] fun r216=>
        .done (.inl (2,l210.2.1,l210.2.2.1,l210.2.2.2.1,l210.2.2.2.2.1,r216.1.fHost,r216.1.fPort,(Q7 (l210.2.2.2.2.2.2.2+1)))))
       (.done (.inl (l210.1,l210.2.1,l210.2.2.1,l210.2.2.2.1,l210.2.2.2.2.1,l210.2.2.2.2.2.1,l210.2.2.2.2.2.2.1,(Q7 (l210.2.2.2.2.2.2.2+1)))))))))
   (.done (.inr (l210.1,r202,l210.2.1,l210.2.2.1,l210.2.2.2.1,l210.2.2.2.2.1,l210.2.2.2.2.2.1,l210.2.2.2.2.2.2.1))))
  (3,0,false,0,false,ByteArray.empty,0,0))
 (fun(e217:Int×Int×Int×Bool×Int×Bool×ByteArray×Int)=>Ext.lit (.exit 0) [(2,.ptr 2 0 0),(3,.ptr 3 0 0)] [(2,⟨8,true,[[.i 0,.i 0,.i 0,.bool false,.i 0,.bool false,.str ByteArray.empty,.i 0]]⟩),(3,⟨8,true,[[.i e217.1,.i e217.2.1,.i e217.2.2.1,.bool e217.2.2.2.1,.i e217.2.2.2.2.1,.bool e217.2.2.2.2.2.1,.str e217.2.2.2.2.2.2.1,.i e217.2.2.2.2.2.2.2]]⟩)])
 (fun e217=>
  .done (Y6.mk e217.1 e217.2.1 e217.2.2.1 e217.2.2.2.1 e217.2.2.2.2.1 e217.2.2.2.2.2.1 (Z2.mk e217.2.2.2.2.2.2.1 e217.2.2.2.2.2.2.2)))):TT (Y6)) (fun r=>.agg [.int .i64 r.fKind,.int .i64 r.fId,.int .i64 r.fPriority,.bool r.fControlling,.int .i64 r.fTie,.bool r.fUse,.str r.fSeen.fHost,.int .i64 r.fSeen.fPort]) by unfold FnD;kernel_rfl)
noncomputable def s122 (p0 p1:Int):EV.Spec Tryz.prog GG (ByteArray):=.ofFn 122 Q8 Tryz.func122 (show FnD Tryz.prog GG [0,1,4,5] Tryz.f122 [.i p0,.i p1] (
 .call 1003 (s198 p0 p1) [] [] fun r218=>
 .done r218.1:TT (ByteArray)) (fun r=>.str r) by unfold FnD;kernel_rfl)
noncomputable def s123 (p0:Int) (p1:ByteArray) (p2 p3:Int) (p4:ByteArray):EV.Spec Tryz.prog GG ((List Q4)):=.ofFnB 123 [11] Q8 Tryz.func123 rfl (fun _=>rfl) (show FnB Tryz.prog GG [0,1,2] Tryz.f123 [.i p0,.str p1,.ptr 1000000 0 0] (Ext.of .normal (W0 [.i p0,.str p1,.ptr 1000000 0 0]) [(1000000,⟨4,true,[[.i p2,.i p3,.str p4,.nilsl]]⟩)] [] (by rfl)) (
 .app 7 Q6 [] [(Q4.mk p0 p1)] 24 false (by intro h;cases h) (.done ([]++[(Q4.mk p0 p1)])):TT ((List Q4))) (fun(r:(List Q4))=>.tup []) (fun(r:(List Q4))=>Ext.of .normal [] [(1000000,⟨4,true,[[.i p2,.i p3,.str p4,.ref 11 0 r.length]]⟩)] [BT.of 11 Q6 2 r true] (by rfl)) by unfold FnB;kernel_rfl)
noncomputable def s123_1 (p0:Int) (p1:ByteArray) (p2 p3:Int) (p4:ByteArray) (p5:List Q4):EV.Spec Tryz.prog GG ((List Q4)):=.ofFnB 123 [11] Q8 Tryz.func123 rfl (fun _=>rfl) (show FnB Tryz.prog GG [0,1,2] Tryz.f123 [.i p0,.str p1,.ptr 1000000 0 0] (Ext.of .normal (W0 [.i p0,.str p1,.ptr 1000000 0 0]) [(1000000,⟨4,true,[[.i p2,.i p3,.str p4,.ref 1000001 0 p5.length]]⟩)] [BT.of 1000001 Q6 2 p5 true] (by rfl)) (
 .app 7 Q6 p5 [(Q4.mk p0 p1)] 24 false (by intro h;cases h) (.done (p5++[(Q4.mk p0 p1)])):TT ((List Q4))) (fun(r:(List Q4))=>.tup []) (fun(r:(List Q4))=>Ext.of .normal [] [(1000000,⟨4,true,[[.i p2,.i p3,.str p4,.ref 11 0 r.length]]⟩)] [BT.of 11 Q6 2 r true] (by rfl)) by unfold FnB;kernel_rfl)
noncomputable def s58 (p0:Y6):EV.Spec Tryz.prog GG (H8):=.ofFn 58 Q8 Tryz.func58 (show FnD Tryz.prog GG [0,1,2,3,4,5,6,8,18,27,36,46,49] Tryz.f58 [.agg [.i p0.fKind,.i p0.fId,.i p0.fPriority,.bool p0.fControlling,.i p0.fTie,.bool p0.fUse,.str p0.fSeen.fHost,.i p0.fSeen.fPort]] (
 .call 1001 (s122 5 0) [] [] fun r219=>
 .call 1004 (s122 7 p0.fId) [] [] fun r220=>
 .chk 1005 (decide (r219.size+r220.size≤9223372036854775807)) (.br 0 (p0.fKind==1)
 (.call 9004 (s122 4 p0.fPriority) [] [] fun r221=>
  .call 9005 (s123 36 r221 0 1 (r219++r220)) [(1000000,3)] [(11,500036)] fun r222=>
  .bind 0
  (.br 0 p0.fControlling
   (.done 32810)
   (.done 32809))
  (fun(e223:Int)=>Ext.of .normal [(1,.ptr 1 0 0),(2,.ptr 2 0 0),(3,.ptr 3 0 0),(4,.fn 123 [] [.ptr 3 0 0]),(5,.i e223)] [(1,⟨8,true,[[.i p0.fKind,.i p0.fId,.i p0.fPriority,.bool p0.fControlling,.i p0.fTie,.bool p0.fUse,.str p0.fSeen.fHost,.i p0.fSeen.fPort]]⟩),(2,⟨4,true,[[.i 0,.i 0,.str ByteArray.empty,.nilsl]]⟩),(3,⟨4,true,[[.i 0,.i 1,.str (r219++r220),.ref 500036 0 r222.length]]⟩)] [BT.of 500036 Q6 2 r222 true] (by rfl))
  (fun e223=>
   .call 13003 (s122 1 0) [] [] fun r224=>
   .call 13006 (s122 7 p0.fTie) [] [] fun r225=>
   .chk 13007 (decide (r224.size+r225.size≤9223372036854775807)) (.call 13008 (s123_1 e223 (r224++r225) 0 1 (r219++r220) r222) [(1000000,3),(1000001,500036)] [(11,500037)] fun r226=>
   .br 0 p0.fUse
   (.call 15002 (s123_1 37 ByteArray.empty 0 1 (r219++r220) r226) [(1000000,3),(1000001,500037)] [(11,500039)] fun r227=>
    .gh 0 (.share (VwW.of 500039 Q6 r227) 1) (.done (H8.mk 0 1 (r219++r220) r227)))
   (.gh 0 (.share (VwW.of 500037 Q6 r226) 1) (.done (H8.mk 0 1 (r219++r220) r226))))))
 (.br 0 (p0.fKind==2)
  (.call 18005 (s124 (r219++r220) (Z2.mk p0.fSeen.fHost p0.fSeen.fPort)) [] [] fun r228=>
   .call 19003 (s123 32 r228.1 2 1 (r219++r220)) [(1000000,3)] [(11,500041)] fun r229=>
   .gh 0 (.share (VwW.of 500041 Q6 r229) 1) (.done (H8.mk 2 1 (r219++r220) r229)))
  (.fail))):TT (H8)) (fun r=>.agg [.int .i64 r.fClass,.int .i64 r.fMethod,.str r.fId,.sl false 2 (List.map Q6.c r.fAttrs)]) by unfold FnD;kernel_rfl)
noncomputable def s60_3 (p0:ByteArray):EV.Spec Tryz.prog GG (H8×Int):=decSpec p0
noncomputable def s39 (p0 p1 p2:Int):EV.Spec Tryz.prog GG (Bool):=.ofFn 39 Q8 Tryz.func39 (show FnD Tryz.prog GG [0,1,2,6] Tryz.f39 [.i p0,.i p1,.i p2] (
 .cnd 1 [6]
 (.br 1005 (decide (p1≤p0))
  (.done (decide (p0≤p2)))
  (.done false))
 (fun(c234:Bool)=>[.bool c234]) fun c234=>
 .done c234:TT (Bool)) (fun r=>.bool r) by unfold FnD;kernel_rfl)
noncomputable def s49 (p0:Z2):EV.Spec Tryz.prog GG (Bool):=.ofFn 49 Q8 Tryz.func49 (show FnD Tryz.prog GG [0,1,2] Tryz.f49 [.agg [.str p0.fHost,.i p0.fPort]] (
 .cnd 1 [2]
 (.call 1002 (s101 p0) [] [] fun r239=>
  .br 1005 (r239==0)
  (.done (decide ((1:Int)≤p0.fPort)))
  (.done false))
 (fun(c240:Bool)=>[.bool c240]) fun c240=>
 .done c240:TT (Bool)) (fun r=>.bool r) by unfold FnD;kernel_rfl)
noncomputable def s48 (p0:Y6):EV.Spec Tryz.prog GG (Bool):=.ofFn 48 Q8 Tryz.func48 (show FnD Tryz.prog GG [0,1,2,6,8,9,34,50] Tryz.f48 [.agg [.i p0.fKind,.i p0.fId,.i p0.fPriority,.bool p0.fControlling,.i p0.fTie,.bool p0.fUse,.str p0.fSeen.fHost,.i p0.fSeen.fPort]] (
 .call 1003 (s39 p0.fId 0 1099511627776) [] [] fun r235=>
 .br 0 (!r235)
 (.done false)
 (.br 0 (p0.fKind==1)
  (.cnd 5 [2]
   (.call 5003 (s39 p0.fPriority 1 2147483647) [] [] fun r236=>
    .br 5005 r236
    (.call 5007 (s39 p0.fTie 0 281474976710655) [] [] fun r237=>
     .br 5010 r237
     (.br 5013 p0.fControlling
      (.done ((decide (p0.fSeen.fHost=ByteArray.empty))&&((p0.fSeen.fPort==0)&&true)))
      (.br 5019 (!p0.fUse)
       (.done ((decide (p0.fSeen.fHost=ByteArray.empty))&&((p0.fSeen.fPort==0)&&true)))
       (.done false)))
     (.done false))
    (.done false))
   (fun(c238:Bool)=>[.bool c238]) fun c238=>
   .done c238)
  (.br 0 (p0.fKind==2)
   (.cnd 7 [2]
    (.call 7003 (s49 p0.fSeen) [] [] fun r239=>
     .br 7005 r239
     (.done ((p0.fKind==p0.fKind)&&((p0.fId==p0.fId)&&((p0.fPriority==0)&&((p0.fControlling==false)&&((p0.fTie==0)&&((p0.fUse==false)&&((decide (p0.fSeen.fHost=p0.fSeen.fHost))&&((p0.fSeen.fPort==p0.fSeen.fPort)&&true)))))))))
     (.done false))
    (fun(c240:Bool)=>[.bool c240]) fun c240=>
    .done c240)
   (.br 0 (p0.fKind==3)
    (.done ((p0.fKind==p0.fKind)&&((p0.fId==p0.fId)&&((p0.fPriority==0)&&((p0.fControlling==false)&&((p0.fTie==0)&&((p0.fUse==false)&&((decide (p0.fSeen.fHost=ByteArray.empty))&&((p0.fSeen.fPort==0)&&true)))))))))
    (.done false)))):TT (Bool)) (fun r=>.bool r) by unfold FnD;kernel_rfl)
noncomputable def s19 (p0:Y6) (p1:ByteArray):EV.Spec Tryz.prog GG (ByteArray×Int):=.ofFn 19 Q8 Tryz.func19 (show FnD Tryz.prog GG [0,1,2,4,5,6,7,10,19] Tryz.f19 [.agg [.i p0.fKind,.i p0.fId,.i p0.fPriority,.bool p0.fControlling,.i p0.fTie,.bool p0.fUse,.str p0.fSeen.fHost,.i p0.fSeen.fPort],.str p1] (
 .call 1002 (s48 p0) [] [] fun r241=>
 .br 0 (!r241)
 (.done (ByteArray.empty,110))
 (.call 3002 (s58 p0) [] [] fun r242=>
  .call 3004 (s57 r242 p1) [] [] fun r243=>
  .br 0 (r243.2 != 0)
  (.done (ByteArray.empty,r243.2))
  (.call 6002 (s59 r243.1) [] [] fun r244=>
   .done (r244.1,r244.2))):TT (ByteArray×Int)) (fun r=>.tup [.str r.1,.int .i64 r.2]) by unfold FnD;kernel_rfl)
noncomputable def s20 (p0 p1:ByteArray):EV.Spec Tryz.prog GG (Y6×Int):=.ofFn 20 Q8 Tryz.func20 (show FnD Tryz.prog GG [0,1,4,5,6,7,8,9,10,17,22,39] Tryz.f20 [.str p0,.str p1] (
 .call 1002 (s60_3 p0) [] [] fun r230=>
 .bind 0
 (.br 0 (r230.2==0)
  (.call 3003 (s61 r230.1 p1) [] [] fun r231=>
   .done r231)
  (.done r230.2))
 (fun(e232:Int)=>Ext.lit .normal [(0,.str p0),(1,.str p1),(4,.ptr 4 0 0),(5,.i 0),(6,.ptr 6 0 0),(7,.i e232)] [(4,⟨8,true,[[.i 0,.i 0,.i 0,.bool false,.i 0,.bool false,.str ByteArray.empty,.i 0]]⟩),(6,⟨4,true,[[.i r230.1.fClass,.i r230.1.fMethod,.str r230.1.fId,.sl false 2 (List.map Q6.c r230.1.fAttrs)]]⟩)])
 (fun e232=>
  .br 0 (e232 != 0)
  (.done ((Y6.mk 0 0 0 false 0 false (Z2.mk ByteArray.empty 0)),e232))
  (.call 6002 (s62 r230.1) [] [] fun r233=>
   .call 7003 (s19 r233 p1) [] [] fun r245=>
   .cnd 8 [39]
   (.br 8004 (r245.2 != 0)
    (.done true)
    (.done (!decide (r245.1=p0))))
   (fun(c246:Bool)=>[.bool c246]) fun c246=>
   .br 0 c246
   (.done ((Y6.mk 0 0 0 false 0 false (Z2.mk ByteArray.empty 0)),5))
   (.done (r233,0)))):TT (Y6×Int)) (fun r=>.tup [.agg [.int .i64 r.1.fKind,.int .i64 r.1.fId,.int .i64 r.1.fPriority,.bool r.1.fControlling,.int .i64 r.1.fTie,.bool r.1.fUse,.str r.1.fSeen.fHost,.int .i64 r.1.fSeen.fPort],.int .i64 r.2]) by unfold FnD;kernel_rfl)
noncomputable def s231 (p0:Int):EV.Spec Tryz.prog GG (Bool):=.ofFn 231 Q8 Tryz.func231 (show FnD Tryz.prog GG [0,1,2,6] Tryz.f231 [.i p0,.i 1,.i 4] (
 .cnd 1 [6]
 (.br 1005 (decide ((1:Int)≤p0))
  (.done (decide (p0≤4)))
  (.done false))
 (fun(c249:Bool)=>[.bool c249]) fun c249=>
 .done c249:TT (Bool)) (fun r=>.bool r) by unfold FnD;kernel_rfl)
noncomputable def s231_1 (p0:Int):EV.Spec Tryz.prog GG (Bool):=.ofFn 231 Q8 Tryz.func231 (show FnD Tryz.prog GG [0,1,2,6] Tryz.f231 [.i p0,.i 1,.i 256] (
 .cnd 1 [6]
 (.br 1005 (decide ((1:Int)≤p0))
  (.done (decide (p0≤256)))
  (.done false))
 (fun(c251:Bool)=>[.bool c251]) fun c251=>
 .done c251:TT (Bool)) (fun r=>.bool r) by unfold FnD;kernel_rfl)
noncomputable def s231_2 (p0:Int):EV.Spec Tryz.prog GG (Bool):=.ofFn 231 Q8 Tryz.func231 (show FnD Tryz.prog GG [0,1,2,6] Tryz.f231 [.i p0,.i 1,.i 2147483647] (
 .cnd 1 [6]
 (.br 1005 (decide ((1:Int)≤p0))
  (.done (decide (p0≤2147483647)))
  (.done false))
 (fun(c253:Bool)=>[.bool c253]) fun c253=>
 .done c253:TT (Bool)) (fun r=>.bool r) by unfold FnD;kernel_rfl)
noncomputable def s231_3 (p0:Int):EV.Spec Tryz.prog GG (Bool):=.ofFn 231 Q8 Tryz.func231 (show FnD Tryz.prog GG [0,1,2,6] Tryz.f231 [.i p0,.i 1,.i 80] (
 .cnd 1 [6]
 (.br 1005 (decide ((1:Int)≤p0))
  (.done (decide (p0≤80)))
  (.done false))
 (fun(c255:Bool)=>[.bool c255]) fun c255=>
 .done c255:TT (Bool)) (fun r=>.bool r) by unfold FnD;kernel_rfl)
noncomputable def s245 :EV.Spec Tryz.prog GG (Unit):=.ofFnB 245 [] Q8 Tryz.func245 rfl (fun _=>rfl) (show FnB Tryz.prog GG [0,2,3,4,5,9,16] Tryz.f245 [.str (bs [48,49,50,51,52,53,54,55,56,57,97,98,99,100,101,102,45])] (Ext.of .normal (W0 [.str (bs [48,49,50,51,52,53,54,55,56,57,97,98,99,100,101,102,45])]) [] [] (by rfl)) (
 .tt (.ff (.tt (.ff (.tt (.ff (.tt (.ff (.tt (.ff (.tt (.ff (.tt (.ff (.tt (.ff (.tt (.ff (.tt (.ff (.tt (.ff (.tt (.ff (.tt (.ff (.tt (.ff (.tt (.ff (.tt (.ff (.tt (.ff (.ff (.done ()))))))))))))))))))))))))))))))))))):TT (Unit)) (fun(r:Unit)=>.tup [.agg [.bool false,.bool false,.bool false,.bool false,.bool false,.bool false,.bool false,.bool false,.bool false,.bool false,.bool false,.bool false,.bool false,.bool false,.bool false,.bool false,.bool false,.bool false,.bool false,.bool false,.bool false,.bool false,.bool false,.bool false,.bool false,.bool false,.bool false,.bool false,.bool false,.bool false,.bool false,.bool false,.bool false,.bool false,.bool false,.bool false,.bool false,.bool false,.bool false,.bool false,.bool false,.bool false,.bool false,.bool false,.bool false,.bool true,.bool false,.bool false,.bool true,.bool true,.bool true,.bool true,.bool true,.bool true,.bool true,.bool true,.bool true,.bool true,.bool false,.bool false,.bool false,.bool false,.bool false,.bool false,.bool false,.bool false,.bool false,.bool false,.bool false,.bool false,.bool false,.bool false,.bool false,.bool false,.bool false,.bool false,.bool false,.bool false,.bool false,.bool false,.bool false,.bool false,.bool false,.bool false,.bool false,.bool false,.bool false,.bool false,.bool false,.bool false,.bool false,.bool false,.bool false,.bool false,.bool false,.bool false,.bool false,.bool true,.bool true,.bool true,.bool true,.bool true,.bool true,.bool false,.bool false,.bool false,.bool false,.bool false,.bool false,.bool false,.bool false,.bool false,.bool false,.bool false,.bool false,.bool false,.bool false,.bool false,.bool false,.bool false,.bool false,.bool false,.bool false,.bool false,.bool false,.bool false,.bool false,.bool false,.bool false,.bool false,.bool false,.bool false,.bool false,.bool false,.bool false,.bool false,.bool false,.bool false,.bool false,.bool false,.bool false,.bool false,.bool false,.bool false,.bool false,.bool false,.bool false,.bool false,.bool false,.bool false,.bool false,.bool false,.bool false,.bool false,.bool false,.bool false,.bool false,.bool false,.bool false,.bool false,.bool false,.bool false,.bool false,.bool false,.bool false,.bool false,.bool false,.bool false,.bool false,.bool false,.bool false,.bool false,.bool false,.bool false,.bool false,.bool false,.bool false,.bool false,.bool false,.bool false,.bool false,.bool false,.bool false,.bool false,.bool false,.bool false,.bool false,.bool false,.bool false,.bool false,.bool false,.bool false,.bool false,.bool false,.bool false,.bool false,.bool false,.bool false,.bool false,.bool false,.bool false,.bool false,.bool false,.bool false,.bool false,.bool false,.bool false,.bool false,.bool false,.bool false,.bool false,.bool false,.bool false,.bool false,.bool false,.bool false,.bool false,.bool false,.bool false,.bool false,.bool false,.bool false,.bool false,.bool false,.bool false,.bool false,.bool false,.bool false,.bool false,.bool false,.bool false,.bool false,.bool false,.bool false,.bool false,.bool false,.bool false,.bool false,.bool false,.bool false,.bool false,.bool false,.bool false,.bool false,.bool false,.bool false,.bool false,.bool false,.bool false,.bool false,.bool false,.bool false,.bool false,.bool false,.bool false,.bool false],.bool true]) (fun(r:Unit)=>Ext.of .normal [] [] [] (by rfl)) by unfold FnB;kernel_rfl)
noncomputable def s266 (p0:Int):EV.Spec Tryz.prog GG (Bool):=.ofFn 266 Q8 Tryz.func266 (show FnD Tryz.prog GG [0,1,4] Tryz.f266 [.snap [.bool false,.bool false,.bool false,.bool false,.bool false,.bool false,.bool false,.bool false,.bool false,.bool false,.bool false,.bool false,.bool false,.bool false,.bool false,.bool false,.bool false,.bool false,.bool false,.bool false,.bool false,.bool false,.bool false,.bool false,.bool false,.bool false,.bool false,.bool false,.bool false,.bool false,.bool false,.bool false,.bool false,.bool false,.bool false,.bool false,.bool false,.bool false,.bool false,.bool false,.bool false,.bool false,.bool false,.bool false,.bool false,.bool true,.bool false,.bool false,.bool true,.bool true,.bool true,.bool true,.bool true,.bool true,.bool true,.bool true,.bool true,.bool true,.bool false,.bool false,.bool false,.bool false,.bool false,.bool false,.bool false,.bool false,.bool false,.bool false,.bool false,.bool false,.bool false,.bool false,.bool false,.bool false,.bool false,.bool false,.bool false,.bool false,.bool false,.bool false,.bool false,.bool false,.bool false,.bool false,.bool false,.bool false,.bool false,.bool false,.bool false,.bool false,.bool false,.bool false,.bool false,.bool false,.bool false,.bool false,.bool false,.bool true,.bool true,.bool true,.bool true,.bool true,.bool true,.bool false,.bool false,.bool false,.bool false,.bool false,.bool false,.bool false,.bool false,.bool false,.bool false,.bool false,.bool false,.bool false,.bool false,.bool false,.bool false,.bool false,.bool false,.bool false,.bool false,.bool false,.bool false,.bool false,.bool false,.bool false,.bool false,.bool false,.bool false,.bool false,.bool false,.bool false,.bool false,.bool false,.bool false,.bool false,.bool false,.bool false,.bool false,.bool false,.bool false,.bool false,.bool false,.bool false,.bool false,.bool false,.bool false,.bool false,.bool false,.bool false,.bool false,.bool false,.bool false,.bool false,.bool false,.bool false,.bool false,.bool false,.bool false,.bool false,.bool false,.bool false,.bool false,.bool false,.bool false,.bool false,.bool false,.bool false,.bool false,.bool false,.bool false,.bool false,.bool false,.bool false,.bool false,.bool false,.bool false,.bool false,.bool false,.bool false,.bool false,.bool false,.bool false,.bool false,.bool false,.bool false,.bool false,.bool false,.bool false,.bool false,.bool false,.bool false,.bool false,.bool false,.bool false,.bool false,.bool false,.bool false,.bool false,.bool false,.bool false,.bool false,.bool false,.bool false,.bool false,.bool false,.bool false,.bool false,.bool false,.bool false,.bool false,.bool false,.bool false,.bool false,.bool false,.bool false,.bool false,.bool false,.bool false,.bool false,.bool false,.bool false,.bool false,.bool false,.bool false,.bool false,.bool false,.bool false,.bool false,.bool false,.bool false,.bool false,.bool false,.bool false,.bool false,.bool false,.bool false,.bool false,.bool false,.bool false,.bool false,.bool false,.bool false,.bool false,.bool false,.bool false,.bool false,.bool false,.bool false,.bool false,.bool false,.bool false,.bool false,.bool false],.int .u8 p0] (
 .ceq 1004 p0 [0,1,2,3,4,5,6,7,8,9,10,11,12,13,14,15,16,17,18,19,20,21,22,23,24,25,26,27,28,29,30,31,32,33,34,35,36,37,38,39,40,41,42,43,44,45,46,47,48,49,50,51,52,53,54,55,56,57,58,59,60,61,62,63,64,65,66,67,68,69,70,71,72,73,74,75,76,77,78,79,80,81,82,83,84,85,86,87,88,89,90,91,92,93,94,95,96,97,98,99,100,101,102,103,104,105,106,107,108,109,110,111,112,113,114,115,116,117,118,119,120,121,122,123,124,125,126,127,128,129,130,131,132,133,134,135,136,137,138,139,140,141,142,143,144,145,146,147,148,149,150,151,152,153,154,155,156,157,158,159,160,161,162,163,164,165,166,167,168,169,170,171,172,173,174,175,176,177,178,179,180,181,182,183,184,185,186,187,188,189,190,191,192,193,194,195,196,197,198,199,200,201,202,203,204,205,206,207,208,209,210,211,212,213,214,215,216,217,218,219,220,221,222,223,224,225,226,227,228,229,230,231,232,233,234,235,236,237,238,239,240,241,242,243,244,245,246,247,248,249,250,251,252,253,254,255] (fun v=>bif [45,48,49,50,51,52,53,54,55,56,57,97,98,99,100,101,102].contains v then .done true else .done false):TT (Bool)) (fun r=>.bool r) by unfold FnD;kernel_rfl)
noncomputable def s247 (p0:ByteArray):EV.Spec Tryz.prog GG (ByteArray):=.ofFn 247 Q8 Tryz.func247 (show FnD Tryz.prog GG [0,1,4,7,15] Tryz.f247 [.str p0,.snap [.bool false,.bool false,.bool false,.bool false,.bool false,.bool false,.bool false,.bool false,.bool false,.bool false,.bool false,.bool false,.bool false,.bool false,.bool false,.bool false,.bool false,.bool false,.bool false,.bool false,.bool false,.bool false,.bool false,.bool false,.bool false,.bool false,.bool false,.bool false,.bool false,.bool false,.bool false,.bool false,.bool false,.bool false,.bool false,.bool false,.bool false,.bool false,.bool false,.bool false,.bool false,.bool false,.bool false,.bool false,.bool false,.bool true,.bool false,.bool false,.bool true,.bool true,.bool true,.bool true,.bool true,.bool true,.bool true,.bool true,.bool true,.bool true,.bool false,.bool false,.bool false,.bool false,.bool false,.bool false,.bool false,.bool false,.bool false,.bool false,.bool false,.bool false,.bool false,.bool false,.bool false,.bool false,.bool false,.bool false,.bool false,.bool false,.bool false,.bool false,.bool false,.bool false,.bool false,.bool false,.bool false,.bool false,.bool false,.bool false,.bool false,.bool false,.bool false,.bool false,.bool false,.bool false,.bool false,.bool false,.bool false,.bool true,.bool true,.bool true,.bool true,.bool true,.bool true,.bool false,.bool false,.bool false,.bool false,.bool false,.bool false,.bool false,.bool false,.bool false,.bool false,.bool false,.bool false,.bool false,.bool false,.bool false,.bool false,.bool false,.bool false,.bool false,.bool false,.bool false,.bool false,.bool false,.bool false,.bool false,.bool false,.bool false,.bool false,.bool false,.bool false,.bool false,.bool false,.bool false,.bool false,.bool false,.bool false,.bool false,.bool false,.bool false,.bool false,.bool false,.bool false,.bool false,.bool false,.bool false,.bool false,.bool false,.bool false,.bool false,.bool false,.bool false,.bool false,.bool false,.bool false,.bool false,.bool false,.bool false,.bool false,.bool false,.bool false,.bool false,.bool false,.bool false,.bool false,.bool false,.bool false,.bool false,.bool false,.bool false,.bool false,.bool false,.bool false,.bool false,.bool false,.bool false,.bool false,.bool false,.bool false,.bool false,.bool false,.bool false,.bool false,.bool false,.bool false,.bool false,.bool false,.bool false,.bool false,.bool false,.bool false,.bool false,.bool false,.bool false,.bool false,.bool false,.bool false,.bool false,.bool false,.bool false,.bool false,.bool false,.bool false,.bool false,.bool false,.bool false,.bool false,.bool false,.bool false,.bool false,.bool false,.bool false,.bool false,.bool false,.bool false,.bool false,.bool false,.bool false,.bool false,.bool false,.bool false,.bool false,.bool false,.bool false,.bool false,.bool false,.bool false,.bool false,.bool false,.bool false,.bool false,.bool false,.bool false,.bool false,.bool false,.bool false,.bool false,.bool false,.bool false,.bool false,.bool false,.bool false,.bool false,.bool false,.bool false,.bool false,.bool false,.bool false,.bool false,.bool false,.bool false,.bool false,.bool false,.bool false]] (
 .bind 1
 (.lp (fun(l262:ByteArray)=>Ext.lit .normal [(0,.str l262),(1,.snap [.bool false,.bool false,.bool false,.bool false,.bool false,.bool false,.bool false,.bool false,.bool false,.bool false,.bool false,.bool false,.bool false,.bool false,.bool false,.bool false,.bool false,.bool false,.bool false,.bool false,.bool false,.bool false,.bool false,.bool false,.bool false,.bool false,.bool false,.bool false,.bool false,.bool false,.bool false,.bool false,.bool false,.bool false,.bool false,.bool false,.bool false,.bool false,.bool false,.bool false,.bool false,.bool false,.bool false,.bool false,.bool false,.bool true,.bool false,.bool false,.bool true,.bool true,.bool true,.bool true,.bool true,.bool true,.bool true,.bool true,.bool true,.bool true,.bool false,.bool false,.bool false,.bool false,.bool false,.bool false,.bool false,.bool false,.bool false,.bool false,.bool false,.bool false,.bool false,.bool false,.bool false,.bool false,.bool false,.bool false,.bool false,.bool false,.bool false,.bool false,.bool false,.bool false,.bool false,.bool false,.bool false,.bool false,.bool false,.bool false,.bool false,.bool false,.bool false,.bool false,.bool false,.bool false,.bool false,.bool false,.bool false,.bool true,.bool true,.bool true,.bool true,.bool true,.bool true,.bool false,.bool false,.bool false,.bool false,.bool false,.bool false,.bool false,.bool false,.bool false,.bool false,.bool false,.bool false,.bool false,.bool false,.bool false,.bool false,.bool false,.bool false,.bool false,.bool false,.bool false,.bool false,.bool false,.bool false,.bool false,.bool false,.bool false,.bool false,.bool false,.bool false,.bool false,.bool false,.bool false,.bool false,.bool false,.bool false,.bool false,.bool false,.bool false,.bool false,.bool false,.bool false,.bool false,.bool false,.bool false,.bool false,.bool false,.bool false,.bool false,.bool false,.bool false,.bool false,.bool false,.bool false,.bool false,.bool false,.bool false,.bool false,.bool false,.bool false,.bool false,.bool false,.bool false,.bool false,.bool false,.bool false,.bool false,.bool false,.bool false,.bool false,.bool false,.bool false,.bool false,.bool false,.bool false,.bool false,.bool false,.bool false,.bool false,.bool false,.bool false,.bool false,.bool false,.bool false,.bool false,.bool false,.bool false,.bool false,.bool false,.bool false,.bool false,.bool false,.bool false,.bool false,.bool false,.bool false,.bool false,.bool false,.bool false,.bool false,.bool false,.bool false,.bool false,.bool false,.bool false,.bool false,.bool false,.bool false,.bool false,.bool false,.bool false,.bool false,.bool false,.bool false,.bool false,.bool false,.bool false,.bool false,.bool false,.bool false,.bool false,.bool false,.bool false,.bool false,.bool false,.bool false,.bool false,.bool false,.bool false,.bool false,.bool false,.bool false,.bool false,.bool false,.bool false,.bool false,.bool false,.bool false,.bool false,.bool false,.bool false,.bool false,.bool false,.bool false,.bool false,.bool false,.bool false,.bool false,.bool false,.bool false,.bool false,.bool false,.bool false]),(4,.str ByteArray.empty)] [])
  (fun l262=>
   .br 0 (decide ((0:Int) < (l262.size:Int)))
   (.chk 2006 (decide (0≤(Q7 ((l262.size:Int) - 1))∧(Q7 ((l262.size:Int) - 1)) < (l262.size:Int))) (.call 2007 (s266 (bAt l262 (Q7 ((l262.size:Int) - 1)))) [] [] fun r263=>
    .br 0 (!r263)
    (.done (.inr l262))
    (.chk 3005 (decide (0≤(Q7 ((l262.size:Int) - 1)))&&decide ((Q7 ((l262.size:Int) - 1))≤(l262.size:Int))) (.done (.inl (l262.extract 0 ((Q7 ((l262.size:Int) - 1)).toNat)))))))
   (.done (.inr l262)))
  p0)
 (fun(e264:ByteArray)=>Ext.lit (.exit 0) [(0,.str e264),(4,.str ByteArray.empty)] [])
 (fun e264=>
  .done e264):TT (ByteArray)) (fun r=>.str r) by unfold FnD;kernel_rfl)
noncomputable def s246 (p0:ByteArray):EV.Spec Tryz.prog GG (ByteArray):=.ofFn 246 Q8 Tryz.func246 (show FnD Tryz.prog GG [0,1,4,7,12] Tryz.f246 [.str p0,.snap [.bool false,.bool false,.bool false,.bool false,.bool false,.bool false,.bool false,.bool false,.bool false,.bool false,.bool false,.bool false,.bool false,.bool false,.bool false,.bool false,.bool false,.bool false,.bool false,.bool false,.bool false,.bool false,.bool false,.bool false,.bool false,.bool false,.bool false,.bool false,.bool false,.bool false,.bool false,.bool false,.bool false,.bool false,.bool false,.bool false,.bool false,.bool false,.bool false,.bool false,.bool false,.bool false,.bool false,.bool false,.bool false,.bool true,.bool false,.bool false,.bool true,.bool true,.bool true,.bool true,.bool true,.bool true,.bool true,.bool true,.bool true,.bool true,.bool false,.bool false,.bool false,.bool false,.bool false,.bool false,.bool false,.bool false,.bool false,.bool false,.bool false,.bool false,.bool false,.bool false,.bool false,.bool false,.bool false,.bool false,.bool false,.bool false,.bool false,.bool false,.bool false,.bool false,.bool false,.bool false,.bool false,.bool false,.bool false,.bool false,.bool false,.bool false,.bool false,.bool false,.bool false,.bool false,.bool false,.bool false,.bool false,.bool true,.bool true,.bool true,.bool true,.bool true,.bool true,.bool false,.bool false,.bool false,.bool false,.bool false,.bool false,.bool false,.bool false,.bool false,.bool false,.bool false,.bool false,.bool false,.bool false,.bool false,.bool false,.bool false,.bool false,.bool false,.bool false,.bool false,.bool false,.bool false,.bool false,.bool false,.bool false,.bool false,.bool false,.bool false,.bool false,.bool false,.bool false,.bool false,.bool false,.bool false,.bool false,.bool false,.bool false,.bool false,.bool false,.bool false,.bool false,.bool false,.bool false,.bool false,.bool false,.bool false,.bool false,.bool false,.bool false,.bool false,.bool false,.bool false,.bool false,.bool false,.bool false,.bool false,.bool false,.bool false,.bool false,.bool false,.bool false,.bool false,.bool false,.bool false,.bool false,.bool false,.bool false,.bool false,.bool false,.bool false,.bool false,.bool false,.bool false,.bool false,.bool false,.bool false,.bool false,.bool false,.bool false,.bool false,.bool false,.bool false,.bool false,.bool false,.bool false,.bool false,.bool false,.bool false,.bool false,.bool false,.bool false,.bool false,.bool false,.bool false,.bool false,.bool false,.bool false,.bool false,.bool false,.bool false,.bool false,.bool false,.bool false,.bool false,.bool false,.bool false,.bool false,.bool false,.bool false,.bool false,.bool false,.bool false,.bool false,.bool false,.bool false,.bool false,.bool false,.bool false,.bool false,.bool false,.bool false,.bool false,.bool false,.bool false,.bool false,.bool false,.bool false,.bool false,.bool false,.bool false,.bool false,.bool false,.bool false,.bool false,.bool false,.bool false,.bool false,.bool false,.bool false,.bool false,.bool false,.bool false,.bool false,.bool false,.bool false,.bool false,.bool false,.bool false,.bool false,.bool false,.bool false,.bool false]] (
 .bind 1
 (.lp (fun(l268:ByteArray)=>Ext.lit .normal [(0,.str l268),(1,.snap [.bool false,.bool false,.bool false,.bool false,.bool false,.bool false,.bool false,.bool false,.bool false,.bool false,.bool false,.bool false,.bool false,.bool false,.bool false,.bool false,.bool false,.bool false,.bool false,.bool false,.bool false,.bool false,.bool false,.bool false,.bool false,.bool false,.bool false,.bool false,.bool false,.bool false,.bool false,.bool false,.bool false,.bool false,.bool false,.bool false,.bool false,.bool false,.bool false,.bool false,.bool false,.bool false,.bool false,.bool false,.bool false,.bool true,.bool false,.bool false,.bool true,.bool true,.bool true,.bool true,.bool true,.bool true,.bool true,.bool true,.bool true,.bool true,.bool false,.bool false,.bool false,.bool false,.bool false,.bool false,.bool false,.bool false,.bool false,.bool false,.bool false,.bool false,.bool false,.bool false,.bool false,.bool false,.bool false,.bool false,.bool false,.bool false,.bool false,.bool false,.bool false,.bool false,.bool false,.bool false,.bool false,.bool false,.bool false,.bool false,.bool false,.bool false,.bool false,.bool false,.bool false,.bool false,.bool false,.bool false,.bool false,.bool true,.bool true,.bool true,.bool true,.bool true,.bool true,.bool false,.bool false,.bool false,.bool false,.bool false,.bool false,.bool false,.bool false,.bool false,.bool false,.bool false,.bool false,.bool false,.bool false,.bool false,.bool false,.bool false,.bool false,.bool false,.bool false,.bool false,.bool false,.bool false,.bool false,.bool false,.bool false,.bool false,.bool false,.bool false,.bool false,.bool false,.bool false,.bool false,.bool false,.bool false,.bool false,.bool false,.bool false,.bool false,.bool false,.bool false,.bool false,.bool false,.bool false,.bool false,.bool false,.bool false,.bool false,.bool false,.bool false,.bool false,.bool false,.bool false,.bool false,.bool false,.bool false,.bool false,.bool false,.bool false,.bool false,.bool false,.bool false,.bool false,.bool false,.bool false,.bool false,.bool false,.bool false,.bool false,.bool false,.bool false,.bool false,.bool false,.bool false,.bool false,.bool false,.bool false,.bool false,.bool false,.bool false,.bool false,.bool false,.bool false,.bool false,.bool false,.bool false,.bool false,.bool false,.bool false,.bool false,.bool false,.bool false,.bool false,.bool false,.bool false,.bool false,.bool false,.bool false,.bool false,.bool false,.bool false,.bool false,.bool false,.bool false,.bool false,.bool false,.bool false,.bool false,.bool false,.bool false,.bool false,.bool false,.bool false,.bool false,.bool false,.bool false,.bool false,.bool false,.bool false,.bool false,.bool false,.bool false,.bool false,.bool false,.bool false,.bool false,.bool false,.bool false,.bool false,.bool false,.bool false,.bool false,.bool false,.bool false,.bool false,.bool false,.bool false,.bool false,.bool false,.bool false,.bool false,.bool false,.bool false,.bool false,.bool false,.bool false,.bool false,.bool false,.bool false,.bool false,.bool false,.bool false,.bool false]),(4,.str ByteArray.empty)] [])
  (fun l268=>
   .br 0 (decide ((0:Int) < (l268.size:Int)))
   (.chk 2003 (decide (0≤(0:Int)∧(0:Int) < (l268.size:Int))) (.call 2004 (s266 (bAt l268 0)) [] [] fun r269=>
    .br 0 (!r269)
    (.done (.inr l268))
    (.chk 3002 (decide (0≤(1:Int))&&decide ((1:Int)≤(l268.size:Int))) (.done (.inl (l268.extract 1 l268.size))))))
   (.done (.inr l268)))
  p0)
 (fun(e270:ByteArray)=>Ext.lit (.exit 0) [(0,.str e270),(4,.str ByteArray.empty)] [])
 (fun e270=>
  .done e270):TT (ByteArray)) (fun r=>.str r) by unfold FnD;kernel_rfl)
noncomputable def s212_1 (p0:ByteArray):EV.Spec Tryz.prog GG (ByteArray):=.ofFn 212 Q8 Tryz.func212 (show FnD Tryz.prog GG [0,1,4,5,6,12,21,34] Tryz.f212 [.str p0,.str (bs [48,49,50,51,52,53,54,55,56,57,97,98,99,100,101,102,45])] (
 .cnd 1 [12]
 (.br 1004 (decide (p0=ByteArray.empty))
  (.done true)
  (.done false))
 (fun(c258:Bool)=>[.bool c258]) fun c258=>
 .br 0 c258
 (.done p0)
 (.ff (.call 5002 s245 [] [] fun r259=>
  .tt (.view 7002 (s247 p0) [] fun r265=>
  .view 7003 (s246 r265) [] fun r271=>
  .done r271))):TT (ByteArray)) (fun r=>.str r) by unfold FnD;kernel_rfl)
noncomputable def s232 (p0:Z2):EV.Spec Tryz.prog GG (Bool):=.ofFn 232 Q8 Tryz.func232 (show FnD Tryz.prog GG [0,1,2] Tryz.f232 [.agg [.str p0.fHost,.i p0.fPort]] (
 .cnd 1 [2]
 (.call 1002 (s101 p0) [] [] fun r273=>
  .br 1005 (r273==0)
  (.done (decide ((1:Int)≤p0.fPort)))
  (.done false))
 (fun(c274:Bool)=>[.bool c274]) fun c274=>
 .done c274:TT (Bool)) (fun r=>.bool r) by unfold FnD;kernel_rfl)
noncomputable def s220 (p0:Q3):EV.Spec Tryz.prog GG (Bool):=.ofFn 220 Q8 Tryz.func220 (show FnD Tryz.prog GG [0,1,2,25,52] Tryz.f220 [.agg (Q0.c p0)] (
 .cnd 1 [25]
 (.call 1003 (s231 p0.fKind) [] [] fun r250=>
  .br 1006 (!r250)
  (.done true)
  (.call 1008 (s231_1 p0.fComponent) [] [] fun r252=>
   .br 1012 (!r252)
   (.done true)
   (.call 1014 (s231_2 p0.fPriority) [] [] fun r254=>
    .br 1018 (!r254)
    (.done true)
    (.call 1021 (s231_3 (p0.fFoundation.size:Int)) [] [] fun r256=>
     .done (!r256)))))
 (fun(c257:Bool)=>[.bool c257]) fun c257=>
 .br 0 c257
 (.done false)
 (.cnd 3 [52]
  (.call 3003 (s212_1 p0.fFoundation) [] [] fun r272=>
   .br 3006 (!decide (r272=ByteArray.empty))
   (.done true)
   (.call 3008 (s232 p0.fAddr) [] [] fun r275=>
    .br 3012 (!r275)
    (.done true)
    (.call 3014 (s232 p0.fBase) [] [] fun r276=>
     .br 3018 (!r276)
     (.done true)
     (.done ((p0.fAddr.fHost.size:Int) != (p0.fBase.fHost.size:Int))))))
  (fun(c277:Bool)=>[.bool c277]) fun c277=>
  .br 0 c277
  (.done false)
  (.cnd 5 [2]
   (.br 5007 ((decide (p0.fAddr.fHost=p0.fBase.fHost))&&((p0.fAddr.fPort==p0.fBase.fPort)&&true))
    (.done true)
    (.br 5012 (p0.fKind==2)
     (.done true)
     (.done (p0.fKind==3))))
   (fun(c278:Bool)=>[.bool c278]) fun c278=>
   .done c278)):TT (Bool)) (fun r=>.bool r) by unfold FnD;kernel_rfl)
noncomputable def s155 (p0:Q3):EV.Spec Tryz.prog GG (Int):=.ofFn 155 Q8 Tryz.func155 (show FnD Tryz.prog GG [0,1,2,5] Tryz.f155 [.agg (Q0.c p0)] (
 .call 1002 (s220 p0) [] [] fun r279=>
 .br 0 (!r279)
 (.done 90)
 (.done 0):TT (Int)) (fun r=>.int .i64 r) by unfold FnD;kernel_rfl)
noncomputable def s154 (p0:Q3):EV.Spec Tryz.prog GG (Bool):=.ofFn 154 Q8 Tryz.func154 (show FnD Tryz.prog GG [0,1,2] Tryz.f154 [.agg (Q0.c p0)] (
 .call 1002 (s155 p0) [] [] fun r280=>
 .done (r280 != 0):TT (Bool)) (fun r=>.bool r) by unfold FnD;kernel_rfl)
noncomputable def s102 (p0:List Q3):EV.Spec Tryz.prog GG (Int):=.ofFn 102 Q8 Tryz.func102 (show FnD Tryz.prog GG [0,1,4,5,7,8,9,16] Tryz.f102 [.sl false 8 (List.map Q0.c p0),.fn 154 [] []] (
 .bind2 1
 (.lp (fun(l250:Int)=>Ext.lit .normal [(0,.sl false 8 (List.map Q0.c p0)),(1,.fn 154 [] []),(4,.i 0),(7,.i (Y5 Q0 p0)),(8,.i l250)] [])
  (fun l250=>
   .br 0 (decide (l250 < (Y5 Q0 p0)))
   (.row 4004 Q0 p0 l250.toNat (decide (0≤l250)) fun x251=>
    .call 4006 (s154 x251) [] [] fun r252=>
    .br 0 r252
    (.done (.inr (.inl l250)))
    (.done (.inl (Q7 (l250+1)))))
   (.done (.inr (.inr ()))))
  0)
 (fun(e253:Int)=>Ext.lit .ret [(4,.i e253)] [])
 (fun(e254:Unit)=>Ext.lit (.exit 0) [(4,.i 0)] [])
 (fun e253=>
  .done e253)
 (fun e254=>
  .done (-1)):TT (Int)) (fun r=>.int .i64 r) by unfold FnD;kernel_rfl)
noncomputable def s153 (p0:List Q3):EV.Spec Tryz.prog GG (Bool):=.ofFn 153 Q8 Tryz.func153 (show FnD Tryz.prog GG [0,1,4] Tryz.f153 [.sl false 8 (List.map Q0.c p0),.fn 154 [] []] (
 .call 1003 (s102 p0) [] [] fun r255=>
 .done (decide ((0:Int)≤r255)):TT (Bool)) (fun r=>.bool r) by unfold FnD;kernel_rfl)
noncomputable def s76 (p0:List Q3):EV.Spec Tryz.prog GG (Bool):=.ofFn 76 Q8 Tryz.func76 (show FnD Tryz.prog GG [0,2] Tryz.f76 [.sl false 8 (List.map Q0.c p0)] (
 .call 1002 (s153 p0) [] [] fun r256=>
 .done (!r256):TT (Bool)) (fun r=>.bool r) by unfold FnD;kernel_rfl)
noncomputable def s157 (p0 p1:Q3):EV.Spec Tryz.prog GG (Bool):=.ofFn 157 Q8 Tryz.func157 (show FnD Tryz.prog GG [0,1,2,3,4] Tryz.f157 [.agg (Q0.c p0),.agg (Q0.c p1)] (
 .cnd 1 [4]
 (.br 1007 (p0.fComponent==p1.fComponent)
  (.done ((p0.fAddr.fHost.size:Int)==(p1.fAddr.fHost.size:Int)))
  (.done false))
 (fun(c265:Bool)=>[.bool c265]) fun c265=>
 .done c265:TT (Bool)) (fun r=>.bool r) by unfold FnD;kernel_rfl)
noncomputable def s183 (p0 p1:Int):EV.Spec Tryz.prog GG (Int×Int):=.ofFn 183 Q8 Tryz.func183 (show FnD Tryz.prog GG [0,1,4,5,6,14,26] Tryz.f183 [.i p0,.i p1] (
 .cnd 1 [14]
 (.call 1002 (s231_2 p0) [] [] fun r270=>
  .br 1005 (!r270)
  (.done true)
  (.call 1006 (s231_2 p1) [] [] fun r271=>
   .done (!r271)))
 (fun(c272:Bool)=>[.bool c272]) fun c272=>
 .br 0 c272
 (.done (0,2))
 (.br 0 (decide (p1 < p0))
  (.done ((Q7 ((Q7 ((bShl .i64 (if p1 < p0 then p1 else p0) 32)+(Q7 ((2:Int) * (if p1 > p0 then p1 else p0)))))+1)),0))
  (.done ((Q7 ((bShl .i64 (if p1 < p0 then p1 else p0) 32)+(Q7 ((2:Int) * (if p1 > p0 then p1 else p0))))),0))):TT (Int×Int)) (fun r=>.tup [.int .i64 r.1,.int .i64 r.2]) by unfold FnD;kernel_rfl)
noncomputable def s156 (p0:M4) (p1:Q9):EV.Spec Tryz.prog GG (Int):=.ofFn 156 Q8 Tryz.func156 (show FnD Tryz.prog GG [0,1,3,4,5,6,7,34] Tryz.f156 [.snap [.bool p0.fList.fControlling,.sl false 8 (List.map Q0.c p0.fList.fLocals),.sl false 8 (List.map Q0.c p0.fList.fRemotes),.sl false 4 (List.map Q2.c p0.fList.fPairs)],.agg (Q2.c p1)] (
 .row 1008 Q0 p0.fList.fLocals p1.fLocal.toNat (decide (0≤p1.fLocal)) fun x267=>
 .row 1018 Q0 p0.fList.fRemotes p1.fRemote.toNat (decide (0≤p1.fRemote)) fun x268=>
 .bind 0
 (.br 0 (!p0.fList.fControlling)
  (.done (x268.fPriority,x267.fPriority))
  (.done (x267.fPriority,x268.fPriority)))
 (fun(e269:Int×Int)=>Ext.lit .normal [(4,.i 0),(5,.i e269.1),(6,.i e269.2)] [])
 (fun e269=>
  .call 4003 (s183 e269.1 e269.2) [] [] fun r273=>
  .done r273.1):TT (Int)) (fun r=>.int .i64 r) by unfold FnD;kernel_rfl)
noncomputable def s82 (p0:M4) (p1:Q9):EV.Spec Tryz.prog GG (SLike):=.ofFn 82 Q8 Tryz.func82 (show FnD Tryz.prog GG [0,1,3,4,5,6] Tryz.f82 [.snap [.bool p0.fList.fControlling,.sl false 8 (List.map Q0.c p0.fList.fLocals),.sl false 8 (List.map Q0.c p0.fList.fRemotes),.sl false 4 (List.map Q2.c p0.fList.fPairs)],.agg (Q2.c p1)] (
 .row 1008 Q0 p0.fList.fLocals p1.fLocal.toNat (decide (0≤p1.fLocal)) fun x275=>
 .row 1017 Q0 p0.fList.fRemotes p1.fRemote.toNat (decide (0≤p1.fRemote)) fun x276=>
 .done (SLike.mk x275.fBase x276.fAddr x275.fComponent):TT (SLike)) (fun r=>.agg [.str r.fbase.fHost,.int .i64 r.fbase.fPort,.str r.faddr.fHost,.int .i64 r.faddr.fPort,.int .i64 r.fcomponent]) by unfold FnD;kernel_rfl)
noncomputable def s160 (p0:M4):EV.Spec Tryz.prog GG (Bool):=.ofFn 160 Q8 Tryz.func160 (show FnD Tryz.prog GG [0,2,3,5,48,54,55,56,57,99,134] Tryz.f160 [.snap [.bool p0.fList.fControlling,.sl false 8 (List.map Q0.c p0.fList.fLocals),.sl false 8 (List.map Q0.c p0.fList.fRemotes),.sl false 4 (List.map Q2.c p0.fList.fPairs)]] (
 .cnd 1 [48]
 (.br 1009 (decide ((12:Int) < (Y5 Q0 p0.fList.fLocals)))
  (.done true)
  (.br 1018 (decide ((12:Int) < (Y5 Q0 p0.fList.fRemotes)))
   (.done true)
   (.br 1027 (decide ((36:Int) < (Y5 Q2 p0.fList.fPairs)))
    (.done true)
    (.call 1032 (s76 p0.fList.fLocals) [] [] fun r257=>
     .br 1036 (!r257)
     (.done true)
     (.call 1041 (s76 p0.fList.fRemotes) [] [] fun r258=>
      .done (!r258))))))
 (fun(c259:Bool)=>[.bool c259]) fun c259=>
 .br 0 c259
 (.done false)
 (.opr 3001 (Rule.makeMap 158 49 1114373 (by decide)) fun _=>
  .bind2 1
  (.lp (fun(l270:(List C0)×Int)=>Ext.of .normal [(0,.snap [.bool p0.fList.fControlling,.sl false 8 (List.map Q0.c p0.fList.fLocals),.sl false 8 (List.map Q0.c p0.fList.fRemotes),.sl false 4 (List.map Q2.c p0.fList.fPairs)]),(2,.bool false),(3,.mp 49),(54,.sl false 4 (List.map Q2.c p0.fList.fPairs)),(55,.i (Y5 Q2 p0.fList.fPairs)),(56,.i l270.2)] [] [BT.of 49 C4 1114373 l270.1 true] (by rfl))
   (fun l270=>
    .br 0 (decide (l270.2 < (Y5 Q2 p0.fList.fPairs)))
    (.row 6001 Q2 p0.fList.fPairs l270.2.toNat (decide (0≤l270.2)) fun x271=>
     .cnd 7 [99]
     (.br 7005 (decide (x271.fLocal < 0))
      (.done true)
      (.br 7016 (decide ((Y5 Q0 p0.fList.fLocals)≤x271.fLocal))
       (.done true)
       (.br 7021 (decide (x271.fRemote < 0))
        (.done true)
        (.br 7032 (decide ((Y5 Q0 p0.fList.fRemotes)≤x271.fRemote))
         (.done true)
         (.br 7037 (decide (x271.fState < 0))
          (.done true)
          (.done (decide ((4:Int) < x271.fState))))))))
     (fun(c272:Bool)=>[.bool c272]) fun c272=>
     .br 0 c272
     (.done (.inr (.inl ())))
     (.cnd 9 [134]
      (.row 9008 Q0 p0.fList.fLocals x271.fLocal.toNat (decide (0≤x271.fLocal)) fun x273=>
       .row 9017 Q0 p0.fList.fRemotes x271.fRemote.toNat (decide (0≤x271.fRemote)) fun x274=>
       .call 9019 (s157 x273 x274) [] [] fun r275=>
       .br 9022 (!r275)
       (.done true)
       (.call 9026 (s156 p0 x271) [] [] fun r276=>
        .br 9030 (x271.fPriority != r276)
        (.done true)
        (.call 9033 (s82 p0 x271) [] [] fun r277=>
         .opr 9034 (Rule.look (mt:=158) (kt:=160) (et:=4) (z:=1114373) (ty:=C4) (p:=(fun x=>((decide (r277.fbase.fHost=x.fk.fbase.fHost))&&((r277.fbase.fPort==x.fk.fbase.fPort)&&((decide (r277.faddr.fHost=x.fk.faddr.fHost))&&((r277.faddr.fPort==x.fk.faddr.fPort)&&((r277.fcomponent==x.fk.fcomponent)&&true))))))) (kc:=[.str r277.fbase.fHost,.int .i64 r277.fbase.fPort,.str r277.faddr.fHost,.int .i64 r277.faddr.fPort,.int .i64 r277.fcomponent]) (.tmp 129) (.tmp 132) 133 49 true l270.1 (.bool false) (.bool (O2 l270.1 (fun x=>((decide (r277.fbase.fHost=x.fk.fbase.fHost))&&((r277.fbase.fPort==x.fk.fbase.fPort)&&((decide (r277.faddr.fHost=x.fk.faddr.fHost))&&((r277.faddr.fPort==x.fk.faddr.fPort)&&((r277.fcomponent==x.fk.fcomponent)&&true)))))) (fun x=>x.fv) false)) ⟨by kernel_rfl,by kernel_rfl,by kernel_rfl,fun _=>by kernel_rfl⟩ (by kernel_rfl) (T0 _ _ (fun x:C0=>x.fv) false V.bool)) fun _=>
         .done (O2 l270.1 (fun x=>((decide (r277.fbase.fHost=x.fk.fbase.fHost))&&((r277.fbase.fPort==x.fk.fbase.fPort)&&((decide (r277.faddr.fHost=x.fk.faddr.fHost))&&((r277.faddr.fPort==x.fk.faddr.fPort)&&((r277.fcomponent==x.fk.fcomponent)&&true)))))) (fun x=>x.fv) false))))
      (fun(c278:Bool)=>[.bool c278]) fun c278=>
      .br 0 c278
      (.done (.inr (.inl ())))
      (.call 11004 (s82 p0 x271) [] [] fun r279=>
       .opr 11005 (Rule.put (mt:=158) (kt:=160) (et:=4) (z:=1114373) (ty:=C4) (p:=(fun x=>((decide (r279.fbase.fHost=x.fk.fbase.fHost))&&((r279.fbase.fPort==x.fk.fbase.fPort)&&((decide (r279.faddr.fHost=x.fk.faddr.fHost))&&((r279.faddr.fPort==x.fk.faddr.fPort)&&((r279.fcomponent==x.fk.fcomponent)&&true))))))) (kc:=[.str r279.fbase.fHost,.int .i64 r279.fbase.fPort,.str r279.faddr.fHost,.int .i64 r279.faddr.fPort,.int .i64 r279.fcomponent]) (.tmp 135) (.tmp 138) (.const (.bool true)) 49 l270.1 (C0.mk r279 true) [.bool true] ⟨by kernel_rfl,by kernel_rfl,by kernel_rfl,fun _=>by kernel_rfl⟩ (by rfl) (by kernel_rfl) (by kernel_rfl) (by decide) (by decide)) fun _=>
       .done (.inl ((mput l270.1 (fun x=>((decide (r279.fbase.fHost=x.fk.fbase.fHost))&&((r279.fbase.fPort==x.fk.fbase.fPort)&&((decide (r279.faddr.fHost=x.fk.faddr.fHost))&&((r279.faddr.fPort==x.fk.faddr.fPort)&&((r279.fcomponent==x.fk.fcomponent)&&true)))))) (C0.mk r279 true)),(Q7 (l270.2+1)))))))
    (.done (.inr (.inr ()))))
   ([],0))
  (fun(e280:Unit)=>Ext.lit .ret [(2,.bool false)] [])
  (fun(e281:Unit)=>Ext.lit (.exit 0) [(2,.bool false)] [])
  (fun e280=>
   .done false)
  (fun e281=>
   .done true)):TT (Bool)) (fun r=>.bool r) by unfold FnD;kernel_rfl)
noncomputable def s86 (p0:Y8):EV.Spec Tryz.prog GG (Int):=.ofFn 86 Q8 Tryz.func86 (show FnD Tryz.prog GG [0,1,2,3,9] Tryz.f86 [.agg [.bool p0.fControlling,.sl false 8 (List.map Q0.c p0.fLocals),.sl false 8 (List.map Q0.c p0.fRemotes),.sl false 4 (List.map Q2.c p0.fPairs)]] (
 .view 2002 (s160 (M4.mk p0)) [] fun r282=>
 .br 0 (!r282)
 (.done 100)
 (.done 0):TT (Int)) (fun r=>.int .i64 r) by unfold FnD;kernel_rfl)
end Go.Proofs.YtjpahkpfkohfkaaGreatDoor
