/- Guides and contracts, printed by a program. The attributes of octets (stun.attributes), collected: a range over a function, put together by hand. Gui ..; no conditions. -/
import Derived.Test.YtjpahkpfkohfkaaGreatDoorF8
import Derived.Test.YtjpahkpfkohfkaaGreatDoorF6
import Derived.Test.YtjpahkpfkohfkaaGreatDoorF7
import Derived.Laws.Entries
import Derived.Lib.ByteType
import Derived.KernelRfl
set_option linter.unusedVariables false
set_option linter.unusedSimpArgs false
set_option maxRecDepth 100000
noncomputable section
namespace Go.Proofs.YtjpahkpfkohfkaaGreatDoor
open Go Go.EV
structure H5 where
 fS:ByteArray
 gf:Int
structure SReader1 where
 gi:H5
structure E9 where
 gl:Int
 gm:Int
 fp:ByteArray
 fW:(List Q9)
def s240(p0:H5):Sp (SReader1×Int):=.ofFn 240 Z0 Tryz.func240 (show FnD Pg GG [0,1,2,3,14] Tryz.f240 [.agg [.str p0.fS,.i p0.gf]] (.cnd 1 [14] (.br 1005 (decide (p0.gf < 0)) (.done true) (.done (decide ((p0.fS.size:Int) < p0.gf)))) (fun(c115:Bool)=>[.bool c115]) fun c115=>.br 0 c115 (.done ((SReader1.mk (H5.mk ByteArray.empty 0)),2)) (.done ((SReader1.mk p0),0)):TT (SReader1×Int)) (fun r=>.tup [.agg [.str r.1.gi.fS,.int .i64 r.1.gi.gf],.int .i64 r.2]) by unfold FnD;kernel_rfl)
def s208(p0:ByteArray):Sp (Int):=.ofFn 208 Z0 Tryz.func208 (show FnD Pg GG [0,2,3,5,7,8,9,10] Tryz.f208 [.str p0] (.opr 2002 (Rule.octets (ty:=W0) (s:=9) (t:=73) (e:=5) (.tmp 6) 7 p0 (by kernel_rfl) (by kernel_rfl) (by kernel_rfl) (by kernel_rfl) (fun _=>rfl)) fun _=>.bind 1 (.lp (fun(l120:Int×Int)=>Ext.of .normal [(2,.i 0),(3,.i l120.1),(7,.ref 7 0 ((Y7 p0).length)),(8,.i ((Y7 p0).length:Int)),(9,.i l120.2)] [] [BT.of 7 W0 1 (Y7 p0) true] (by rfl)) (fun l120=>.br 0 (decide (l120.2 < ((Y7 p0).length:Int))) (.chk 4001 (decide (0≤l120.2)&&decide (l120.2 < ((Y7 p0).length:Int))) (.row 4002 W0 (Y7 p0) (0+l120.2.toNat) true fun x121=>.done (.inl ((bOr .i64 (V9 .i64 l120.1 8) (Q4 x121)),(Q4 (l120.2+1)))))) (.done (.inr l120.1))) (0,0)) (fun(e122:Int)=>Ext.l (.exit 0) [(2,.i 0),(3,.i e122)] []) (fun e122=>.done e122):TT (Int)) (fun r=>.int .i64 r) by unfold FnD;kernel_rfl)
def s207(p0:H5)(p1 p2 p3:Int):Sp (Int×H5×Int):=.ofFn 207 Z0 Tryz.func207 (show FnD Pg GG [0,1,2,3,4,5,10,11,12,13,19,25,36] Tryz.f207 [.agg [.str p0.fS,.i p0.gf],.i p1,.i p2,.i p3,.fn 208 [] []] (.call 1002 (s240 p0) [] [] fun r116=>.br 0 (r116.2 != 0) (.done (0,(H5.mk ByteArray.empty 0),r116.2)) (.cnd 4 [25] (.br 4005 (decide (p1 < p2)) (.done true) (.done (decide (p3 < p1)))) (fun(c117:Bool)=>[.bool c117]) fun c117=>.br 0 c117 (.done (0,(H5.mk ByteArray.empty 0),2)) (.br 0 (decide ((Q4 ((r116.1.gi.fS.size:Int) - r116.1.gi.gf)) < p1)) (.done (0,(H5.mk ByteArray.empty 0),7)) (.chk 8013 ((decide (0≤(Q4 (r116.1.gi.gf+p1)))&&decide ((Q4 (r116.1.gi.gf+p1))≤(r116.1.gi.fS.size:Int)))&&(decide (0≤r116.1.gi.gf)&&decide (r116.1.gi.gf≤((Q4 (r116.1.gi.gf+p1)).toNat:Int)))) (.call 8014 (s208 (r116.1.gi.fS.extract r116.1.gi.gf.toNat ((Q4 (r116.1.gi.gf+p1)).toNat))) [] [] fun r123=>.done (r123,(H5.mk r116.1.gi.fS (Q4 (r116.1.gi.gf+p1))),0))))):TT (Int×H5×Int)) (fun r=>.tup [.int .i64 r.1,.agg [.str r.2.1.fS,.int .i64 r.2.1.gf],.int .i64 r.2.2]) by unfold FnD;kernel_rfl)
def s129(p0:H5)(p1:Int):Sp (Int×H5×Int):=.ofFn 129 Z0 Tryz.func129 (show FnD Pg GG [0,1,2,4,5,6] Tryz.f129 [.agg [.str p0.fS,.i p0.gf],.i p1] (.call 1003 (s207 p0 p1 1 7) [] [] fun r124=>.done (r124.1,r124.2.1,r124.2.2):TT (Int×H5×Int)) (fun r=>.tup [.int .i64 r.1,.agg [.str r.2.1.fS,.int .i64 r.2.1.gf],.int .i64 r.2.2]) by unfold FnD;kernel_rfl)
def s242(p0:ByteArray):Sp (ByteArray):=.ofFn 242 Z0 Tryz.func242 (show FnD Pg GG [0,2] Tryz.f242 [.str p0] (.done p0:TT (ByteArray)) (fun r=>.str r) by unfold FnD;kernel_rfl)
def s241(p0:H5)(p1 p2 p3:Int):Sp (ByteArray×H5×Int):=.ofFn 241 Z0 Tryz.func241 (show FnD Pg GG [0,1,2,3,4,5,10,11,12,13,19,25,36] Tryz.f241 [.agg [.str p0.fS,.i p0.gf],.i p1,.i p2,.i p3,.fn 242 [] []] (.call 1002 (s240 p0) [] [] fun r125=>.br 0 (r125.2 != 0) (.done (ByteArray.empty,(H5.mk ByteArray.empty 0),r125.2)) (.cnd 4 [25] (.br 4005 (decide (p1 < p2)) (.done true) (.done (decide (p3 < p1)))) (fun(c126:Bool)=>[.bool c126]) fun c126=>.br 0 c126 (.done (ByteArray.empty,(H5.mk ByteArray.empty 0),2)) (.br 0 (decide ((Q4 ((r125.1.gi.fS.size:Int) - r125.1.gi.gf)) < p1)) (.done (ByteArray.empty,(H5.mk ByteArray.empty 0),7)) (.chk 8013 ((decide (0≤(Q4 (r125.1.gi.gf+p1)))&&decide ((Q4 (r125.1.gi.gf+p1))≤(r125.1.gi.fS.size:Int)))&&(decide (0≤r125.1.gi.gf)&&decide (r125.1.gi.gf≤((Q4 (r125.1.gi.gf+p1)).toNat:Int)))) (.call 8014 (s242 (r125.1.gi.fS.extract r125.1.gi.gf.toNat ((Q4 (r125.1.gi.gf+p1)).toNat))) [] [] fun r127=>.done (r127,(H5.mk r125.1.gi.fS (Q4 (r125.1.gi.gf+p1))),0))))):TT (ByteArray×H5×Int)) (fun r=>.tup [.str r.1,.agg [.str r.2.1.fS,.int .i64 r.2.1.gf],.int .i64 r.2.2]) by unfold FnD;kernel_rfl)
def s211(p0:H5)(p1:Int):Sp (ByteArray×H5×Int):=.ofFn 211 Z0 Tryz.func211 (show FnD Pg GG [0,1,2,4,5,6] Tryz.f211 [.agg [.str p0.fS,.i p0.gf],.i p1] (.call 1005 (s241 p0 p1 0 (if (0:Int) > p1 then (0:Int) else p1)) [] [] fun r128=>.done (r128.1,r128.2.1,r128.2.2):TT (ByteArray×H5×Int)) (fun r=>.tup [.str r.1,.agg [.str r.2.1.fS,.int .i64 r.2.1.gf],.int .i64 r.2.2]) by unfold FnD;kernel_rfl)
def s130(p0:Bool):Sp (Unit):=.ofFn 130 Z0 Tryz.func130 (show FnD Pg GG [0,3] Tryz.f130 [.bool p0] (.br 0 (!p0) (.fail) (.done ()):TT (Unit)) (fun r=>.tup []) by unfold FnD;kernel_rfl)
def s244(p0:ByteArray)(p1:Int):Sp (ByteArray):=.ofFn 244 Z0 Tryz.func244 (show FnD Pg GG [0,1,4,16] Tryz.f244 [.str p0,.int .u8 p1] (.bind 1 (.lp (fun(l133:ByteArray)=>Ext.l .normal [(0,.str l133),(1,.int .u8 p1),(4,.str ByteArray.empty)] []) (fun l133=>.cnd 1 [16] (.br 1005 (decide ((0:Int) < (l133.size:Int))) (.chk 1009 (decide (0≤(Q4 ((l133.size:Int) - 1))∧(Q4 ((l133.size:Int) - 1)) < (l133.size:Int))) (.done ((bAt l133 (Q4 ((l133.size:Int) - 1)))==p1))) (.done false)) (fun(c134:Bool)=>[.bool c134]) fun c134=>.br 0 c134 (.chk 2005 (decide (0≤(Q4 ((l133.size:Int) - 1)))&&decide ((Q4 ((l133.size:Int) - 1))≤(l133.size:Int))) (.done (.inl (l133.extract 0 ((Q4 ((l133.size:Int) - 1)).toNat))))) (.done (.inr l133))) p0) (fun(e135:ByteArray)=>Ext.l (.exit 0) [(0,.str e135),(4,.str ByteArray.empty)] []) (fun e135=>.done e135):TT (ByteArray)) (fun r=>.str r) by unfold FnD;kernel_rfl)
def s243(p0:ByteArray)(p1:Int):Sp (ByteArray):=.ofFn 243 Z0 Tryz.func243 (show FnD Pg GG [0,1,4,13] Tryz.f243 [.str p0,.int .u8 p1] (.bind 1 (.lp (fun(l139:ByteArray)=>Ext.l .normal [(0,.str l139),(1,.int .u8 p1),(4,.str ByteArray.empty)] []) (fun l139=>.cnd 1 [13] (.br 1005 (decide ((0:Int) < (l139.size:Int))) (.chk 1006 (decide (0≤(0:Int)∧(0:Int) < (l139.size:Int))) (.done ((bAt l139 0)==p1))) (.done false)) (fun(c140:Bool)=>[.bool c140]) fun c140=>.br 0 c140 (.chk 2002 (decide (0≤(1:Int))&&decide ((1:Int)≤(l139.size:Int))) (.done (.inl (l139.extract 1 l139.size)))) (.done (.inr l139))) p0) (fun(e141:ByteArray)=>Ext.l (.exit 0) [(0,.str e141),(4,.str ByteArray.empty)] []) (fun e141=>.done e141):TT (ByteArray)) (fun r=>.str r) by unfold FnD;kernel_rfl)
def s118(p0:E9):Sp (Int):=.ofFn 118 Z0 Tryz.func118 (show FnD Pg GG [0,1,2,4,34,36,37,38,39,55,61] Tryz.f118 [.agg [.i p0.gl,.i p0.gm,.str p0.fp,Sl 2 Q7 p0.fW]] (.cnd 1 [34] (.br 1005 (decide (p0.gl < 0)) (.done true) (.br 1010 (decide ((3:Int) < p0.gl)) (.done true) (.br 1015 (decide (p0.gm < 0)) (.done true) (.br 1020 (decide ((4095:Int) < p0.gm)) (.done true) (.br 1026 ((p0.fp.size:Int) != 12) (.done true) (.done (decide ((30:Int) < (Y9 Q7 p0.fW))))))))) (fun(c134:Bool)=>[.bool c134]) fun c134=>.br 0 c134 (.done 80) (.bind2 1 (.lp (fun(l138:Int)=>Ext.l .normal [(1,.ptr 1 0 0),(2,.i 0),(36,Sl 2 Q7 p0.fW),(37,.i (Y9 Q7 p0.fW)),(38,.i l138)] [(1,⟨4,true,[[.i p0.gl,.i p0.gm,.str p0.fp,Sl 2 Q7 p0.fW]]⟩)]) (fun l138=>.br 0 (decide (l138 < (Y9 Q7 p0.fW))) (.row 5001 Q7 p0.fW l138.toNat (decide (0≤l138)) fun x139=>.cnd 6 [55] (.br 6005 (decide (x139.fy < 0)) (.done true) (.br 6010 (decide ((65535:Int) < x139.fy)) (.done true) (.done (decide ((763:Int) < (x139.gj.size:Int)))))) (fun(c140:Bool)=>[.bool c140]) fun c140=>.br 0 c140 (.done (.inr (.inl ()))) (.done (.inl (Q4 (l138+1))))) (.done (.inr (.inr ())))) 0) (fun(e141:Unit)=>Ext.l .ret [(1,.ptr 1 0 0),(2,.i 80)] [(1,⟨4,true,[[.i p0.gl,.i p0.gm,.str p0.fp,Sl 2 Q7 p0.fW]]⟩)]) (fun(e142:Unit)=>Ext.l (.exit 0) [(1,.ptr 1 0 0),(2,.i 0)] [(1,⟨4,true,[[.i p0.gl,.i p0.gm,.str p0.fp,Sl 2 Q7 p0.fW]]⟩)]) (fun e141=>.done 80) (fun e142=>.call 9003 (s193 p0.fW) [] [] fun r143=>.br 0 (decide ((1200:Int) < (Q4 ((20:Int)+r143)))) (.done 80) (.done 0))):TT (Int)) (fun r=>.int .i64 r) by unfold FnD;kernel_rfl)
def cAt:Code:=Tryz.f210.body.getD .skip
def aL:Code:=cB (cB (cR cAt))
def aBk:Code:=cB (cL (cR aL))
def gAt0(l:Nat)(s:ByteArray)(out:List Q9):TT (Unit):=
 .done ()
def xsAt0(l:Nat)(s:ByteArray)(out:List Q9):Ext:=Ext.of .normal [(0,.yld l),(1,.ptr 2000000 0 0)] [(1000002,⟨1,true,[[.ref 1900070 0 out.length]]⟩),(2000000,⟨1,true,[[.str s]]⟩)] [BT.of 1900070 Q7 2 out true] (by rfl)
def xeAt0(l:Nat)(s:ByteArray)(out:List Q9):(Unit)→Ext:=fun(r:Unit)=>Ext.of .normal [(0,.yld l),(1,.ptr 2000000 0 0),(3,.ptr 3 0 0)] [(3,⟨2,true,[[.str s,.i 0]]⟩),(1000002,⟨1,true,[[.ref 1900070 0 out.length]]⟩),(2000000,⟨1,true,[[.str s]]⟩)] [BT.of 1900070 Q7 2 out true] (by rfl)
theorem kAt0(l:Nat)(s:ByteArray)(out:List Q9):Z9 Tryz.prog GG [0,1,3] 70 (cL cAt) (xsAt0 l s out) (gAt0 l s out) (xeAt0 l s out):=by unfold Z9;kernel_rfl
def gAt1(l:Nat)(s:ByteArray)(out:List Q9)(S:ByteArray)(a:Int):TT (Unit):=
 .done ()
def xsAt1(l:Nat)(s:ByteArray)(out:List Q9)(S:ByteArray)(a:Int):Ext:=Ext.of .normal [(0,.yld l),(1,.ptr 2000000 0 0),(3,.ptr 3 0 0)] [(3,⟨2,true,[[.str S,.i a]]⟩),(1000002,⟨1,true,[[.ref 1900070 0 out.length]]⟩),(2000000,⟨1,true,[[.str s]]⟩)] [BT.of 1900070 Q7 2 out true] (by rfl)
def xeAt1(l:Nat)(s:ByteArray)(out:List Q9)(S:ByteArray)(a:Int):(Unit)→Ext:=fun(r:Unit)=>Ext.of .normal [(0,.yld l),(1,.ptr 2000000 0 0),(3,.ptr 3 0 0),(16,.bool (decide (a < (s.size:Int))))] [(3,⟨2,true,[[.str S,.i a]]⟩),(1000002,⟨1,true,[[.ref 1900070 0 out.length]]⟩),(2000000,⟨1,true,[[.str s]]⟩)] [BT.of 1900070 Q7 2 out true] (by rfl)
theorem kAt1(l:Nat)(s:ByteArray)(out:List Q9)(S:ByteArray)(a:Int):Z9 Tryz.prog GG [0,1,3,16] 70 (cL (cL aL)) (xsAt1 l s out S a) (gAt1 l s out S a) (xeAt1 l s out S a):=by unfold Z9;kernel_rfl
def gAt2(l:Nat)(s:ByteArray)(out:List Q9)(S:ByteArray)(a:Int):TT (ByteArray×Int×Int×Int):=
 .call 2002 (s129 (H5.mk S a) 2) [] [] fun r144=>
 .done (r144.2.1.fS,r144.2.1.gf,r144.1,r144.2.2)
def xsAt2(l:Nat)(s:ByteArray)(out:List Q9)(S:ByteArray)(a:Int):Ext:=Ext.of .normal [(0,.yld l),(1,.ptr 2000000 0 0),(3,.ptr 3 0 0)] [(3,⟨2,true,[[.str S,.i a]]⟩),(1000002,⟨1,true,[[.ref 1900070 0 out.length]]⟩),(2000000,⟨1,true,[[.str s]]⟩)] [BT.of 1900070 Q7 2 out true] (by rfl)
def xeAt2(l:Nat)(s:ByteArray)(out:List Q9)(S:ByteArray)(a:Int):(ByteArray×Int×Int×Int)→Ext:=fun(r:ByteArray×Int×Int×Int)=>Ext.of .normal [(0,.yld l),(1,.ptr 2000000 0 0),(3,.ptr 3 0 0),(4,.i r.2.2.1),(5,.ptr 5 0 0),(6,.i r.2.2.2)] [(3,⟨2,true,[[.str S,.i a]]⟩),(5,⟨2,true,[[.str r.1,.i r.2.1]]⟩),(1000002,⟨1,true,[[.ref 1900070 0 out.length]]⟩),(2000000,⟨1,true,[[.str s]]⟩)] [BT.of 1900070 Q7 2 out true] (by rfl)
theorem kAt2(l:Nat)(s:ByteArray)(out:List Q9)(S:ByteArray)(a:Int):Z9 Tryz.prog GG [0,1,3,4,5,6] 70 (cL aBk) (xsAt2 l s out S a) (gAt2 l s out S a) (xeAt2 l s out S a):=by unfold Z9;kernel_rfl
def gAt3(l:Nat)(s:ByteArray)(out:List Q9)(S:ByteArray)(a:Int)(u2:ByteArray×Int×Int×Int):TT (Unit):=
 .call 3003 (s130 (u2.2.2.2==0)) [] [] fun r145=>
 .done ()
def xsAt3(l:Nat)(s:ByteArray)(out:List Q9)(S:ByteArray)(a:Int)(u2:ByteArray×Int×Int×Int):Ext:=Ext.of .normal [(0,.yld l),(1,.ptr 2000000 0 0),(3,.ptr 3 0 0),(4,.i u2.2.2.1),(5,.ptr 5 0 0),(6,.i u2.2.2.2)] [(3,⟨2,true,[[.str S,.i a]]⟩),(5,⟨2,true,[[.str u2.1,.i u2.2.1]]⟩),(1000002,⟨1,true,[[.ref 1900070 0 out.length]]⟩),(2000000,⟨1,true,[[.str s]]⟩)] [BT.of 1900070 Q7 2 out true] (by rfl)
def xeAt3(l:Nat)(s:ByteArray)(out:List Q9)(S:ByteArray)(a:Int)(u2:ByteArray×Int×Int×Int):(Unit)→Ext:=fun(r:Unit)=>Ext.of .normal [(0,.yld l),(1,.ptr 2000000 0 0),(3,.ptr 3 0 0),(4,.i u2.2.2.1),(5,.ptr 5 0 0),(6,.i u2.2.2.2)] [(3,⟨2,true,[[.str S,.i a]]⟩),(5,⟨2,true,[[.str u2.1,.i u2.2.1]]⟩),(1000002,⟨1,true,[[.ref 1900070 0 out.length]]⟩),(2000000,⟨1,true,[[.str s]]⟩)] [BT.of 1900070 Q7 2 out true] (by rfl)
theorem kAt3(l:Nat)(s:ByteArray)(out:List Q9)(S:ByteArray)(a:Int)(u2:ByteArray×Int×Int×Int):Z9 Tryz.prog GG [0,1,3,4,5,6] 70 (cL (cR aBk)) (xsAt3 l s out S a u2) (gAt3 l s out S a u2) (xeAt3 l s out S a u2):=by unfold Z9;kernel_rfl
def gAt4(l:Nat)(s:ByteArray)(out:List Q9)(S:ByteArray)(a:Int)(u2:ByteArray×Int×Int×Int):TT (ByteArray×Int×Int×Int):=
 .call 4002 (s129 (H5.mk u2.1 u2.2.1) 2) [] [] fun r146=>
 .done (r146.2.1.fS,r146.2.1.gf,r146.2.2,r146.1)
def xsAt4(l:Nat)(s:ByteArray)(out:List Q9)(S:ByteArray)(a:Int)(u2:ByteArray×Int×Int×Int):Ext:=Ext.of .normal [(0,.yld l),(1,.ptr 2000000 0 0),(3,.ptr 3 0 0),(4,.i u2.2.2.1),(5,.ptr 5 0 0),(6,.i u2.2.2.2)] [(3,⟨2,true,[[.str S,.i a]]⟩),(5,⟨2,true,[[.str u2.1,.i u2.2.1]]⟩),(1000002,⟨1,true,[[.ref 1900070 0 out.length]]⟩),(2000000,⟨1,true,[[.str s]]⟩)] [BT.of 1900070 Q7 2 out true] (by rfl)
def xeAt4(l:Nat)(s:ByteArray)(out:List Q9)(S:ByteArray)(a:Int)(u2:ByteArray×Int×Int×Int):(ByteArray×Int×Int×Int)→Ext:=fun(r:ByteArray×Int×Int×Int)=>Ext.of .normal [(0,.yld l),(1,.ptr 2000000 0 0),(3,.ptr 3 0 0),(4,.i u2.2.2.1),(5,.ptr 5 0 0),(6,.i r.2.2.1),(7,.i r.2.2.2)] [(3,⟨2,true,[[.str S,.i a]]⟩),(5,⟨2,true,[[.str r.1,.i r.2.1]]⟩),(1000002,⟨1,true,[[.ref 1900070 0 out.length]]⟩),(2000000,⟨1,true,[[.str s]]⟩)] [BT.of 1900070 Q7 2 out true] (by rfl)
theorem kAt4(l:Nat)(s:ByteArray)(out:List Q9)(S:ByteArray)(a:Int)(u2:ByteArray×Int×Int×Int):Z9 Tryz.prog GG [0,1,3,4,5,6,7] 70 (cL (cR (cR aBk))) (xsAt4 l s out S a u2) (gAt4 l s out S a u2) (xeAt4 l s out S a u2):=by unfold Z9;kernel_rfl
def gAt5(l:Nat)(s:ByteArray)(out:List Q9)(S:ByteArray)(a:Int)(u2:ByteArray×Int×Int×Int)(u4:ByteArray×Int×Int×Int):TT (Unit):=
 .call 5003 (s130 (u4.2.2.1==0)) [] [] fun r147=>
 .done ()
def xsAt5(l:Nat)(s:ByteArray)(out:List Q9)(S:ByteArray)(a:Int)(u2:ByteArray×Int×Int×Int)(u4:ByteArray×Int×Int×Int):Ext:=Ext.of .normal [(0,.yld l),(1,.ptr 2000000 0 0),(3,.ptr 3 0 0),(4,.i u2.2.2.1),(5,.ptr 5 0 0),(6,.i u4.2.2.1),(7,.i u4.2.2.2)] [(3,⟨2,true,[[.str S,.i a]]⟩),(5,⟨2,true,[[.str u4.1,.i u4.2.1]]⟩),(1000002,⟨1,true,[[.ref 1900070 0 out.length]]⟩),(2000000,⟨1,true,[[.str s]]⟩)] [BT.of 1900070 Q7 2 out true] (by rfl)
def xeAt5(l:Nat)(s:ByteArray)(out:List Q9)(S:ByteArray)(a:Int)(u2:ByteArray×Int×Int×Int)(u4:ByteArray×Int×Int×Int):(Unit)→Ext:=fun(r:Unit)=>Ext.of .normal [(0,.yld l),(1,.ptr 2000000 0 0),(3,.ptr 3 0 0),(4,.i u2.2.2.1),(5,.ptr 5 0 0),(6,.i u4.2.2.1),(7,.i u4.2.2.2)] [(3,⟨2,true,[[.str S,.i a]]⟩),(5,⟨2,true,[[.str u4.1,.i u4.2.1]]⟩),(1000002,⟨1,true,[[.ref 1900070 0 out.length]]⟩),(2000000,⟨1,true,[[.str s]]⟩)] [BT.of 1900070 Q7 2 out true] (by rfl)
theorem kAt5(l:Nat)(s:ByteArray)(out:List Q9)(S:ByteArray)(a:Int)(u2:ByteArray×Int×Int×Int)(u4:ByteArray×Int×Int×Int):Z9 Tryz.prog GG [0,1,3,4,5,6,7] 70 (cL (cR (cR (cR aBk)))) (xsAt5 l s out S a u2 u4) (gAt5 l s out S a u2 u4) (xeAt5 l s out S a u2 u4):=by unfold Z9;kernel_rfl
def gAt6(l:Nat)(s:ByteArray)(out:List Q9)(S:ByteArray)(a:Int)(u2:ByteArray×Int×Int×Int)(u4:ByteArray×Int×Int×Int):TT (ByteArray×Int×Int×ByteArray):=
 .call 6003 (s211 (H5.mk u4.1 u4.2.1) u4.2.2.2) [] [] fun r148=>
 .done (r148.2.1.fS,r148.2.1.gf,r148.2.2,r148.1)
def xsAt6(l:Nat)(s:ByteArray)(out:List Q9)(S:ByteArray)(a:Int)(u2:ByteArray×Int×Int×Int)(u4:ByteArray×Int×Int×Int):Ext:=Ext.of .normal [(0,.yld l),(1,.ptr 2000000 0 0),(3,.ptr 3 0 0),(4,.i u2.2.2.1),(5,.ptr 5 0 0),(6,.i u4.2.2.1),(7,.i u4.2.2.2)] [(3,⟨2,true,[[.str S,.i a]]⟩),(5,⟨2,true,[[.str u4.1,.i u4.2.1]]⟩),(1000002,⟨1,true,[[.ref 1900070 0 out.length]]⟩),(2000000,⟨1,true,[[.str s]]⟩)] [BT.of 1900070 Q7 2 out true] (by rfl)
def xeAt6(l:Nat)(s:ByteArray)(out:List Q9)(S:ByteArray)(a:Int)(u2:ByteArray×Int×Int×Int)(u4:ByteArray×Int×Int×Int):(ByteArray×Int×Int×ByteArray)→Ext:=fun(r:ByteArray×Int×Int×ByteArray)=>Ext.of .normal [(0,.yld l),(1,.ptr 2000000 0 0),(3,.ptr 3 0 0),(4,.i u2.2.2.1),(5,.ptr 5 0 0),(6,.i r.2.2.1),(7,.i u4.2.2.2),(8,.str r.2.2.2)] [(3,⟨2,true,[[.str S,.i a]]⟩),(5,⟨2,true,[[.str r.1,.i r.2.1]]⟩),(1000002,⟨1,true,[[.ref 1900070 0 out.length]]⟩),(2000000,⟨1,true,[[.str s]]⟩)] [BT.of 1900070 Q7 2 out true] (by rfl)
theorem kAt6(l:Nat)(s:ByteArray)(out:List Q9)(S:ByteArray)(a:Int)(u2:ByteArray×Int×Int×Int)(u4:ByteArray×Int×Int×Int):Z9 Tryz.prog GG [0,1,3,4,5,6,7,8] 70 (cL (cR (cR (cR (cR aBk))))) (xsAt6 l s out S a u2 u4) (gAt6 l s out S a u2 u4) (xeAt6 l s out S a u2 u4):=by unfold Z9;kernel_rfl
def gAt7(l:Nat)(s:ByteArray)(out:List Q9)(S:ByteArray)(a:Int)(u2:ByteArray×Int×Int×Int)(u4:ByteArray×Int×Int×Int)(u6:ByteArray×Int×Int×ByteArray):TT (Unit):=
 .call 7003 (s130 (u6.2.2.1==0)) [] [] fun r149=>
 .done ()
def xsAt7(l:Nat)(s:ByteArray)(out:List Q9)(S:ByteArray)(a:Int)(u2:ByteArray×Int×Int×Int)(u4:ByteArray×Int×Int×Int)(u6:ByteArray×Int×Int×ByteArray):Ext:=Ext.of .normal [(0,.yld l),(1,.ptr 2000000 0 0),(3,.ptr 3 0 0),(4,.i u2.2.2.1),(5,.ptr 5 0 0),(6,.i u6.2.2.1),(7,.i u4.2.2.2),(8,.str u6.2.2.2)] [(3,⟨2,true,[[.str S,.i a]]⟩),(5,⟨2,true,[[.str u6.1,.i u6.2.1]]⟩),(1000002,⟨1,true,[[.ref 1900070 0 out.length]]⟩),(2000000,⟨1,true,[[.str s]]⟩)] [BT.of 1900070 Q7 2 out true] (by rfl)
def xeAt7(l:Nat)(s:ByteArray)(out:List Q9)(S:ByteArray)(a:Int)(u2:ByteArray×Int×Int×Int)(u4:ByteArray×Int×Int×Int)(u6:ByteArray×Int×Int×ByteArray):(Unit)→Ext:=fun(r:Unit)=>Ext.of .normal [(0,.yld l),(1,.ptr 2000000 0 0),(3,.ptr 3 0 0),(4,.i u2.2.2.1),(5,.ptr 5 0 0),(6,.i u6.2.2.1),(7,.i u4.2.2.2),(8,.str u6.2.2.2)] [(3,⟨2,true,[[.str S,.i a]]⟩),(5,⟨2,true,[[.str u6.1,.i u6.2.1]]⟩),(1000002,⟨1,true,[[.ref 1900070 0 out.length]]⟩),(2000000,⟨1,true,[[.str s]]⟩)] [BT.of 1900070 Q7 2 out true] (by rfl)
theorem kAt7(l:Nat)(s:ByteArray)(out:List Q9)(S:ByteArray)(a:Int)(u2:ByteArray×Int×Int×Int)(u4:ByteArray×Int×Int×Int)(u6:ByteArray×Int×Int×ByteArray):Z9 Tryz.prog GG [0,1,3,4,5,6,7,8] 70 (cL (cR (cR (cR (cR (cR aBk)))))) (xsAt7 l s out S a u2 u4 u6) (gAt7 l s out S a u2 u4 u6) (xeAt7 l s out S a u2 u4 u6):=by unfold Z9;kernel_rfl
def gAt8(l:Nat)(s:ByteArray)(out:List Q9)(S:ByteArray)(a:Int)(u2:ByteArray×Int×Int×Int)(u4:ByteArray×Int×Int×Int)(u6:ByteArray×Int×Int×ByteArray):TT (ByteArray×Int×Int×ByteArray):=
 .call 8005 (s211 (H5.mk u6.1 u6.2.1) (Y2 .i64 (Q4 (0 - u4.2.2.2)) 3)) [] [] fun r150=>
 .done (r150.2.1.fS,r150.2.1.gf,r150.2.2,r150.1)
def xsAt8(l:Nat)(s:ByteArray)(out:List Q9)(S:ByteArray)(a:Int)(u2:ByteArray×Int×Int×Int)(u4:ByteArray×Int×Int×Int)(u6:ByteArray×Int×Int×ByteArray):Ext:=Ext.of .normal [(0,.yld l),(1,.ptr 2000000 0 0),(3,.ptr 3 0 0),(4,.i u2.2.2.1),(5,.ptr 5 0 0),(6,.i u6.2.2.1),(7,.i u4.2.2.2),(8,.str u6.2.2.2)] [(3,⟨2,true,[[.str S,.i a]]⟩),(5,⟨2,true,[[.str u6.1,.i u6.2.1]]⟩),(1000002,⟨1,true,[[.ref 1900070 0 out.length]]⟩),(2000000,⟨1,true,[[.str s]]⟩)] [BT.of 1900070 Q7 2 out true] (by rfl)
def xeAt8(l:Nat)(s:ByteArray)(out:List Q9)(S:ByteArray)(a:Int)(u2:ByteArray×Int×Int×Int)(u4:ByteArray×Int×Int×Int)(u6:ByteArray×Int×Int×ByteArray):(ByteArray×Int×Int×ByteArray)→Ext:=fun(r:ByteArray×Int×Int×ByteArray)=>Ext.of .normal [(0,.yld l),(1,.ptr 2000000 0 0),(3,.ptr 3 0 0),(4,.i u2.2.2.1),(5,.ptr 5 0 0),(6,.i r.2.2.1),(8,.str u6.2.2.2),(9,.str r.2.2.2)] [(3,⟨2,true,[[.str S,.i a]]⟩),(5,⟨2,true,[[.str r.1,.i r.2.1]]⟩),(1000002,⟨1,true,[[.ref 1900070 0 out.length]]⟩),(2000000,⟨1,true,[[.str s]]⟩)] [BT.of 1900070 Q7 2 out true] (by rfl)
theorem kAt8(l:Nat)(s:ByteArray)(out:List Q9)(S:ByteArray)(a:Int)(u2:ByteArray×Int×Int×Int)(u4:ByteArray×Int×Int×Int)(u6:ByteArray×Int×Int×ByteArray):Z9 Tryz.prog GG [0,1,3,4,5,6,7,8,9] 70 (cL (cR (cR (cR (cR (cR (cR aBk))))))) (xsAt8 l s out S a u2 u4 u6) (gAt8 l s out S a u2 u4 u6) (xeAt8 l s out S a u2 u4 u6):=by unfold Z9;kernel_rfl
def s212(p0:ByteArray):Sp (ByteArray):=.ofFn 212 Z0 Tryz.func212 (show FnD Pg GG [0,1,4,5,6,12,21,34] Tryz.f212 [.str p0,.str (bs [0])] (.cnd 1 [12] (.br 1004 (decide (p0=ByteArray.empty)) (.done true) (.done false)) (fun(c151:Bool)=>[.bool c151]) fun c151=>.br 0 c151 (.done p0) (.tt (.call 4004 (s244 p0 0) [] [] fun r152=>.call 4007 (s243 r152 0) [] [] fun r153=>.done r153)):TT (ByteArray)) (fun r=>.str r) by unfold FnD;kernel_rfl)
def gAt9(l:Nat)(s:ByteArray)(out:List Q9)(S:ByteArray)(a:Int)(u2:ByteArray×Int×Int×Int)(u4:ByteArray×Int×Int×Int)(u6:ByteArray×Int×Int×ByteArray)(u8:ByteArray×Int×Int×ByteArray):TT (Unit):=
 .cnd 9 []
 (.br 9004 (u8.2.2.1==0)
  (.call 9005 (s212 u8.2.2.2) [] [] fun r154=>
   .call 9008 (s130 (decide (r154=ByteArray.empty))) [] [] fun r155=>
   .done ())
  (.call 9008 (s130 false) [] [] fun r156=>
   .done ()))
 (fun(c157:Unit)=>[]) fun c157=>
 .done ()
def xsAt9(l:Nat)(s:ByteArray)(out:List Q9)(S:ByteArray)(a:Int)(u2:ByteArray×Int×Int×Int)(u4:ByteArray×Int×Int×Int)(u6:ByteArray×Int×Int×ByteArray)(u8:ByteArray×Int×Int×ByteArray):Ext:=Ext.of .normal [(0,.yld l),(1,.ptr 2000000 0 0),(3,.ptr 3 0 0),(4,.i u2.2.2.1),(5,.ptr 5 0 0),(6,.i u8.2.2.1),(8,.str u6.2.2.2),(9,.str u8.2.2.2)] [(3,⟨2,true,[[.str S,.i a]]⟩),(5,⟨2,true,[[.str u8.1,.i u8.2.1]]⟩),(1000002,⟨1,true,[[.ref 1900070 0 out.length]]⟩),(2000000,⟨1,true,[[.str s]]⟩)] [BT.of 1900070 Q7 2 out true] (by rfl)
def xeAt9(l:Nat)(s:ByteArray)(out:List Q9)(S:ByteArray)(a:Int)(u2:ByteArray×Int×Int×Int)(u4:ByteArray×Int×Int×Int)(u6:ByteArray×Int×Int×ByteArray)(u8:ByteArray×Int×Int×ByteArray):(Unit)→Ext:=fun(r:Unit)=>Ext.of .normal [(0,.yld l),(1,.ptr 2000000 0 0),(3,.ptr 3 0 0),(4,.i u2.2.2.1),(5,.ptr 5 0 0),(8,.str u6.2.2.2)] [(3,⟨2,true,[[.str S,.i a]]⟩),(5,⟨2,true,[[.str u8.1,.i u8.2.1]]⟩),(1000002,⟨1,true,[[.ref 1900070 0 out.length]]⟩),(2000000,⟨1,true,[[.str s]]⟩)] [BT.of 1900070 Q7 2 out true] (by rfl)
theorem kAt9(l:Nat)(s:ByteArray)(out:List Q9)(S:ByteArray)(a:Int)(u2:ByteArray×Int×Int×Int)(u4:ByteArray×Int×Int×Int)(u6:ByteArray×Int×Int×ByteArray)(u8:ByteArray×Int×Int×ByteArray):Z9 Tryz.prog GG [0,1,3,4,5,6,8,9] 70 (cL (cR (cR (cR (cR (cR (cR (cR aBk)))))))) (xsAt9 l s out S a u2 u4 u6 u8) (gAt9 l s out S a u2 u4 u6 u8) (xeAt9 l s out S a u2 u4 u6 u8):=by unfold Z9;kernel_rfl
def gAt11(l:Nat)(s:ByteArray)(out:List Q9)(S:ByteArray)(a:Int)(S2:ByteArray)(a2:Int):TT (Unit):=
 .done ()
def xsAt11(l:Nat)(s:ByteArray)(out:List Q9)(S:ByteArray)(a:Int)(S2:ByteArray)(a2:Int):Ext:=Ext.of .normal [(0,.yld l),(1,.ptr 2000000 0 0),(3,.ptr 3 0 0),(5,.snap [.str S2,.i a2])] [(3,⟨2,true,[[.str S,.i a]]⟩),(1000002,⟨1,true,[[.ref 1900070 0 out.length]]⟩),(2000000,⟨1,true,[[.str s]]⟩)] [BT.of 1900070 Q7 2 out true] (by rfl)
def xeAt11(l:Nat)(s:ByteArray)(out:List Q9)(S:ByteArray)(a:Int)(S2:ByteArray)(a2:Int):(Unit)→Ext:=fun(r:Unit)=>Ext.of .normal [(0,.yld l),(1,.ptr 2000000 0 0),(3,.ptr 3 0 0)] [(3,⟨2,true,[[.str S2,.i a2]]⟩),(1000002,⟨1,true,[[.ref 1900070 0 out.length]]⟩),(2000000,⟨1,true,[[.str s]]⟩)] [BT.of 1900070 Q7 2 out true] (by rfl)
theorem kAt11(l:Nat)(s:ByteArray)(out:List Q9)(S:ByteArray)(a:Int)(S2:ByteArray)(a2:Int):Z9 Tryz.prog GG [0,1,3,5] 70 (cR (cR (cR (cR (cR (cR (cR (cR (cR aBk))))))))) (xsAt11 l s out S a S2 a2) (gAt11 l s out S a S2 a2) (xeAt11 l s out S a S2 a2):=by unfold Z9;kernel_rfl
def gAt12(l:Nat)(s:ByteArray)(out:List Q9)(S:ByteArray)(a:Int):TT (Unit):=
 .gh 15 (.drop [3]) (.done ())
def xsAt12(l:Nat)(s:ByteArray)(out:List Q9)(S:ByteArray)(a:Int):Ext:=Ext.of .normal [(0,.yld l),(1,.ptr 2000000 0 0),(3,.ptr 3 0 0)] [(3,⟨2,true,[[.str S,.i a]]⟩),(1000002,⟨1,true,[[.ref 1900070 0 out.length]]⟩),(2000000,⟨1,true,[[.str s]]⟩)] [BT.of 1900070 Q7 2 out true] (by rfl)
def xeAt12(l:Nat)(s:ByteArray)(out:List Q9)(S:ByteArray)(a:Int):(Unit)→Ext:=fun(r:Unit)=>Ext.of .normal [(0,.yld l),(1,.ptr 2000000 0 0),(3,.ptr 3 0 0)] [(3,⟨2,true,[[.str S,.i a]]⟩),(1000002,⟨1,true,[[.ref 1900070 0 out.length]]⟩),(2000000,⟨1,true,[[.str s]]⟩)] [BT.of 1900070 Q7 2 out true] (by rfl)
theorem kAt12(l:Nat)(s:ByteArray)(out:List Q9)(S:ByteArray)(a:Int):Z9 Tryz.prog GG [0,1,3,69] 70 (cR (cR aL)) (xsAt12 l s out S a) (gAt12 l s out S a) (xeAt12 l s out S a):=by unfold Z9;kernel_rfl
def atC(x:Q9):List V:=[.int .i64 x.fy,.str x.gj]
def atTs:List (Nat×V):=[(2,.ptr 1000002 0 0),(6,.fn 210 [] [.ptr 2000000 0 0])]
def atL(s:ByteArray)(o:V):List (Nat×Blk):=[(1000002,⟨1,true,[[o]]⟩),(2000000,⟨1,true,[[.str s]]⟩)]
def atT(out:List Q9):List BT:=[BT.of 1900070 Q7 2 out true]
def atX(ts:List (Nat×V))(s:ByteArray)(out:List Q9):Ext:=Ext.of .normal ts (atL s (.ref 1900070 0 out.length)) (atT out) (by rfl)
def atB(s:ByteArray)(out:List Q9):List (Nat×Blk):=(atX [] s out).bs
def atR:Code:=cB (cR (cL (cR (Tryz.f209.body.getD .skip))))
def atAs:Code:=rAssign atR
def atBd:Code:=rBody atR
section
variable (s:ByteArray) (out:List Q9) (x:Q9)
def xAa:Ext:=atX ((7,.agg (atC x)) :: atTs) s out
def xAb:Ext:=Ext.of .normal (atTs++[(5,.ptr 5 0 0)]) ((5,⟨2,true,[atC x]⟩) :: atL s (.ref 1900070 0 out.length)) (atT out) (by rfl)
def xAd:Ext:=Ext.of .normal [] (atL s (.ref 11 0 (out++[x]).length)) [BT.of 11 Q7 2 (out++[x]) true] (by rfl)
theorem kAa:Z9 Tryz.prog GG [2,5,6] 13 atAs (xAa s out x) (.done ():TT Unit) (fun _=>xAb s out x):=by unfold Z9;kernel_rfl
def gAd:TT Unit:=.app 3004 Q7 out [x] 24 false (by intro h;cases h) (.done ())
theorem kAd:Z9 Tryz.prog GG [11] 13 atBd (xAb s out x) (gAd out x) (fun _=>xAd s out x):=by unfold Z9;kernel_rfl
end
theorem mobA{s:ByteArray}{out:List Q9}{x:Q9}{g:St}(h:Gst GG g ((xAd s out x).D 13).st):Gst GG g (M7 13 (fun _=>.undef) (ofL (atB s (out++[x])))):=
 Gst.trans h (Gst.mob (lits:=atL s (.ref 11 0 (out++[x]).length)) (rest:=[]) (kd:=(BT.of 11 Q7 2 (out++[x]) true).k) (d:=11) (m:=1900070) (n:=13)
  (by decide) (by decide) (by decide) (by decide:([1000002,2000000,11]:List Nat).Nodup) (Q7.data _) (by
   intro p hp
   simp at hp) (by rfl) (by rfl))
theorem roundAtt(s:ByteArray)(out:List Q9)(x:Q9)(hb:(gAd out x).run=some ()) :
  RoundT Tryz.prog GG 13 (tOf atTs) [7] atAs atBd (ofL (atB s out)) [.agg (atC x)] (fun e b'=>e=.normal∧b'=ofL (atB s (out++[x]))):=by
 refine⟨((xAb s out x).D 13).st,?_,?_⟩
 ·have h:=(kAa s out x).tv Z0 (r:=()) rfl (by rfl)
  have e:((xAa s out x).D 13).st=setP (M7 13 (tOf atTs) (ofL (atB s out))) ([7].zip [.agg (atC x)]):=by
   rw[D9 (by rfl)]
   exact(setP_susp 13 atTs _ 7 (.agg (atC x))).symm
  rw[e] at h
  exact h
 ·refine((kAd s out x).tv Z0 hb (by rfl)).mono fun e s' hg=>?_
  obtain⟨rfl,g⟩:=hg
  exact⟨_,13,⟨rfl,rfl⟩,mobA g⟩
def atArgs(l:Nat):List V:=[.yld l,.ptr 2000000 0 0]
def aTl:Code:=cR (cR aL)
def ops10:Array Oper:=rOps (cL (cL (cR (cR (cR (cR (cR (cR (cR (cR aBk))))))))))
theorem eAt:cAt=.seq (cL cAt) (.block 0 (.loop aL)):=by kernel_rfl
theorem eAL:aL=.seq (.seq (cL (cL aL)) (.cond (.tmp 16) .skip (.exit 0))) (.seq (.block 1 aBk) aTl):=by kernel_rfl
theorem eABk:aBk=.seq (cL aBk) (.seq (cL (cR aBk)) (.seq (cL (cR (cR aBk))) (.seq (cL (cR (cR (cR aBk)))) (.seq (cL (cR (cR (cR (cR aBk))))) (.seq (cL (cR (cR (cR (cR (cR aBk)))))) (.seq (cL (cR (cR (cR (cR (cR (cR aBk))))))) (.seq (cL (cR (cR (cR (cR (cR (cR (cR aBk))))))))
 (.seq (.seq (.region 10 ops10 false) (.cond (.tmp 67) .ret .skip)) (cR (cR (cR (cR (cR (cR (cR (cR (cR aBk))))))))))))))))):=by kernel_rfl
abbrev AI4:=ByteArray×Int×Int×Int
abbrev AS4:=ByteArray×Int×Int×ByteArray
def atN(u2:AI4)(u6:AS4):Q9:=⟨u2.2.2.1,u6.2.2.2⟩
section
variable (l:Nat) (s:ByteArray) (out:List Q9) (S:ByteArray) (a:Int) (u2 u4:AI4) (u6 u8:AS4)
def xAt10:Ext:=Ext.of .normal [(0,.yld l),(1,.ptr 2000000 0 0),(3,.ptr 3 0 0),(5,.ptr 5 0 0),(62,.yld l),(65,.agg (atC (atN u2 u6)))]
 ([(3,⟨2,true,[[.str S,.int .i64 a]]⟩),(5,⟨2,true,[[.str u8.1,.int .i64 u8.2.1]]⟩)]++atL s (.ref 1900070 0 out.length)) (atT out) (by rfl)
def tAt(u8:AS4)(x:Q9):List (Nat×V):=[(0,.yld l),(1,.ptr 2000000 0 0),(3,.ptr 3 0 0),(5,.snap [.str u8.1,.int .i64 u8.2.1]),(62,.yld l),(65,.agg (atC x))]
def xAtK(x:Q9):Ext:=Ext.of .normal (tAt l u8 x) ((3,⟨2,true,[[.str S,.i a]]⟩) :: atL s (.ref 1900070 0 out.length)) (atT out) (by rfl)
theorem kA10:A0 Tryz.prog GG [0,1,3,5,62,65] 70 10 ops10 4 (xeAt9 l s out S a u2 u4 u6 u8 ()) (.done ():TT Unit) (fun _=>xAt10 l s out S a u2 u6 u8):=by unfold A0;kernel_rfl
theorem snapAt{g:St}(h:Gst GG g ((xAt10 l s out S a u2 u6 u8).D 70).st):Gst GG g ((xAtK l s out S a u8 (atN u2 u6)).D 70).st:=
 Gst.trans h (Gst.trans (Gst.snapT (t:=5) (b:=5) (k:=⟨2,true,[[.str u8.1,.int .i64 u8.2.1]]⟩) (row:=[.str u8.1,.int .i64 u8.2.1]) rfl rfl rfl (by show 2 < W9;decide) (fun c hc=>by
  simp only[ζv,ζw,or_false] at hc
  rcases hc with rfl|rfl<;>rfl)) (M3 (xAtK l s out S a u8 (atN u2 u6)) (by rfl) rfl ⟨by rfl,by rfl⟩))
end
def atBody(s:ByteArray)(S:ByteArray)(a:Int):Option (Q9×ByteArray×Int):=
 (gAt2 0 s [] S a).run.bind fun u2=>(gAt3 0 s [] S a u2).run.bind fun _=>(gAt4 0 s [] S a u2).run.bind fun u4=>(gAt5 0 s [] S a u2 u4).run.bind fun _=>(gAt6 0 s [] S a u2 u4).run.bind fun u6=>
  (gAt7 0 s [] S a u2 u4 u6).run.bind fun _=>(gAt8 0 s [] S a u2 u4 u6).run.bind fun u8=>(gAt9 0 s [] S a u2 u4 u6 u8).run.bind fun _=>some (atN u2 u6,u8.1,u8.2.1)
def atStep(s:ByteArray)(y:ByteArray×Int×List Q9):Option ((ByteArray×Int×List Q9)⊕List Q9):=
 bif decide (y.2.1 < (s.size:Int)) then
  ((atBody s y.1 y.2.1).bind fun q=>(gAd y.2.2 q.1).run.bind fun _=>some (.inl (q.2.1,q.2.2,y.2.2++[q.1])))
 else some (.inr y.2.2)
def attM(s:ByteArray):Option (List Q9):=I8 (atStep s) FUEL (s,0,[])
def atYL:YL:=⟨13,tOf atTs,#[7],atAs,atBd⟩
theorem atB_ok(s:ByteArray)(out:List Q9)(p:Nat×Blk)(h:p∈atB s out):p.2.size < W9∧okL uTop p.2.rows.flatten=true:=by
 have h':p∈atL s (.ref 1900070 0 out.length)++(atT out).map fun x=>(x.id,x.k):=h
 rcases ζr.1 h' with h|h
 ·have all:((atL s (.ref 1900070 0 out.length)).all fun p=>decide (p.2.size < W9)&&okL uTop p.2.rows.flatten)=true:=by rfl
  have:=ζE.1 all p h
  simpa using this
 ·refine⟨?_,okL_refs _ fun b hb=>by rw[(bts_dat _ h).refs] at hb;simp at hb⟩
  obtain⟨x,hx,rfl⟩:=ζt.1 h
  have hx:x∈[BT.of 1900070 Q7 2 out true]:=hx
  rw[ζu] at hx
  subst hx
  exact(by decide:2 < W9)
theorem atB_top(s:ByteArray)(out:List Q9)(p:Nat×Blk)(h:p∈atB s out):uTop p.1=true:=by
 have all:((atB s out).all fun p=>uTop p.1)=true:=by rfl
 exact ζE.1 all p h
theorem keepT_tOf(c:Nat)(l l2:List (Nat×V))(h:(l.map fun p=>(p.1,A9 c (fun _=>p.2) 0))=l2)(i:Nat):A9 c (tOf l) i=tOf l2 i:=by
 subst h
 induction l with
 | nil=>rfl
 | cons p l ih=>
  by_cases e:p.1=i
  ·have e1:tOf (p :: l) i=p.2:=by simp[tOf,e]
   have e2:tOf ((p :: l).map fun p=>(p.1,A9 c (fun _=>p.2) 0)) i=A9 c (fun _=>p.2) 0:=by simp[tOf,e]
   rw[e2];unfold A9;rw[e1]
  ·have e1:tOf (p :: l) i=tOf l i:=by simp[tOf,e]
   have e2:tOf ((p :: l).map fun p=>(p.1,A9 c (fun _=>p.2) 0)) i=tOf (l.map fun p=>(p.1,A9 c (fun _=>p.2) 0)) i:=by simp[tOf,e]
   rw[e2,←ih];unfold A9;rw[e1]
theorem iterAtt(s:ByteArray){r:List Q9}(h:attM s=some r) :
  IterT Tryz.prog GG cAt 70 atArgs (ofL (atB s [])) atYL (fun e b=>e=.normal∧b=ofL (atB s r)):=by
 refine IterT.of fun l=>?_
 have e0:entry 70 (atArgs l) (ofL (atB s []))=((atX (U6 (atArgs l)) s []).D 70).st:=(entry_ext (x:=atX (U6 (atArgs l)) s []) (by rfl) (by rfl) 70).symm
 rw[e0,eAt]
 show YT _ _ _ _ _ ⟨.normal,((xsAt0 l s []).D 70).st⟩ _
 refine YT.seq (YT.piece (kAt0 l s []) Z0 rfl (by rfl) fun st g=>?_)
 show YT _ _ _ _ _ _ _
 refine YT.block ?_
 refine YT.loop (fun m st=>st.x=.normal∧∃y:ByteArray×Int×List Q9,Gst GG st.st ((xsAt1 l s y.2.2 y.1 y.2.1).D 70).st∧I8 (atStep s) m y=some r) (fun m st hI=>?_) (n:=FUEL) ⟨rfl,(s,0,[]),g,h⟩
 obtain⟨x,st⟩:=st
 obtain⟨rfl,⟨S,a,out⟩,g,hit⟩:=hI
 refine YT.gst g ?_
 cases m with
 | zero=>simp[I8] at hit
 | succ m=>
  rw[T6] at hit
  rw[eAL]
  refine YT.seq (YT.seq (YT.piece (kAt1 l s out S a) Z0 rfl (by rfl) fun st g=>?_))
  show YT _ _ _ _ _ _ _
  refine YT.gst g ?_
  cases hc:decide (a < (s.size:Int)) with
  | false=>
   have hs0:atStep s (S,a,out)=some (.inr out):=by unfold atStep;simp only[hc];rfl
   rw[hs0] at hit
   obtain rfl:out=r:=ζR hit
   refine YT.cond (b:=false) (by show some (V.bool (decide (a < (s.size:Int))))=_;rw[hc]) (YT.exit ?_)
   refine⟨.inl rfl,70,tOf (atX [(0,.yld l)] s out).ts,ofL (atB s out),?_,rfl,rfl⟩
   show Gst GG ((xeAt1 l s out S a ()).D 70).st _
   have e1:=D9 (x:=atX [(0,.yld l)] s out) (by rfl) 70
   show Gst GG _ (M7 70 (tOf (atX [(0,.yld l)] s out).ts) (ofL (atX [(0,.yld l)] s out).bs))
   rw[←e1]
   exact M3 _ (by rfl) rfl ⟨by rfl,by rfl⟩
  | true=>
   refine YT.cond (b:=true) (by show some (V.bool (decide (a < (s.size:Int))))=_;rw[hc]) (YT.skip ?_)
   show YT _ _ _ _ _ _ _
   refine YT.gst (st':=((xsAt2 l s out S a).D 70).st) (M3 (xsAt2 l s out S a) (by rfl) rfl ⟨by rfl,by rfl⟩) ?_
   have hs0:atStep s (S,a,out)=((atBody s S a).bind fun q=>(gAd out q.1).run.bind fun _=>some (.inl (q.2.1,q.2.2,out++[q.1]))):=by unfold atStep;simp only[hc];rfl
   rw[hs0] at hit
   cases hq:atBody s S a with
   | none=>rw[hq] at hit;simp at hit
   | some q=>
   rw[hq] at hit
   simp only[ξa] at hit
   cases hd:(gAd out q.1).run with
   | none=>rw[hd] at hit;simp at hit
   | some un=>
   rw[hd] at hit
   simp only[ξa] at hit
   unfold atBody at hq
   obtain⟨u2,r2,hq⟩:=ζc.1 hq
   obtain⟨u3,r3,hq⟩:=ζc.1 hq
   obtain⟨u4,r4,hq⟩:=ζc.1 hq
   obtain⟨u5,r5,hq⟩:=ζc.1 hq
   obtain⟨u6,r6,hq⟩:=ζc.1 hq
   obtain⟨u7,r7,hq⟩:=ζc.1 hq
   obtain⟨u8,r8,hq⟩:=ζc.1 hq
   obtain⟨u9,r9,hq⟩:=ζc.1 hq
   obtain rfl:=ζR hq
   rw[eABk]
   refine YT.seq (YT.block (YT.seq (YT.piece (kAt2 l s out S a) Z0 (r:=u2) r2 (by rfl) fun st g=>?_)))
   show YT _ _ _ _ _ _ _
   refine YT.gst g (YT.seq (YT.piece (kAt3 l s out S a u2) Z0 (r:=u3) r3 (by rfl) fun st g=>?_))
   show YT _ _ _ _ _ _ _
   refine YT.gst g (YT.seq (YT.piece (kAt4 l s out S a u2) Z0 (r:=u4) r4 (by rfl) fun st g=>?_))
   show YT _ _ _ _ _ _ _
   refine YT.gst g (YT.seq (YT.piece (kAt5 l s out S a u2 u4) Z0 (r:=u5) r5 (by rfl) fun st g=>?_))
   show YT _ _ _ _ _ _ _
   refine YT.gst g (YT.seq (YT.piece (kAt6 l s out S a u2 u4) Z0 (r:=u6) r6 (by rfl) fun st g=>?_))
   show YT _ _ _ _ _ _ _
   refine YT.gst g (YT.seq (YT.piece (kAt7 l s out S a u2 u4 u6) Z0 (r:=u7) r7 (by rfl) fun st g=>?_))
   show YT _ _ _ _ _ _ _
   refine YT.gst g (YT.seq (YT.piece (kAt8 l s out S a u2 u4 u6) Z0 (r:=u8) r8 (by rfl) fun st g=>?_))
   show YT _ _ _ _ _ _ _
   refine YT.gst g (YT.seq (YT.piece (kAt9 l s out S a u2 u4 u6 u8) Z0 (r:=u9) r9 (by rfl) fun st g=>?_))
   show YT _ _ _ _ _ _ _
   refine YT.gst g (YT.seq (YT.seq (YT.region ?_)))
   show H1 _ _ _ _ _ ([0,1,2,3]++[4,5]) _ _
   refine H1.tv ((kA10 l s out S a u2 u4 u6 u8).tv Z0 (r:=()) rfl (by rfl)) fun e st hq'=>⟨hq'.1,H1.gst (snapAt l s out S a u2 u6 u8 hq'.2) ?_⟩
   rw[ext_keep (x:=xAtK l s out S a u8 (atN u2 u6)) (bs:=atB s out) rfl (by rfl) 70]
   refine H1.yieldK (x0:=.normal) (c:=3) (k:=⟨2,true,[[.str S,.int .i64 a]]⟩) (hi:=rfl) (by rfl) rfl (by rfl) (by rfl) rfl rfl (fun i=>?_) (fun i=>S6 (by rfl) i) ?_ rfl (roundAtt s out (atN u2 u6) hd) (fun e b' h=>.inl h.1) rfl rfl ?_ (by show 2 < W9;decide) rfl ?_ ?_ ?_ (Nat.zero_lt_one) ?_
   ·have ht:A9 3 (tOf (tAt l u8 (atN u2 u6))) i=tOf [(0,.yld l),(1,.ptr 2000000 0 0),(3,.undef),(5,.snap [.str u8.1,.int .i64 u8.2.1]),(62,.yld l),(65,.agg (atC (atN u2 u6)))] i:=keepT_tOf 3 _ _ (by rfl) i
    show okV R4 (A9 3 (tOf (tAt l u8 (atN u2 u6))) i)=true
    rw[ht]
    exact S6 (by rfl) i
   ·intro p hp
    have:p∈[7]:=hp
    simp at this
    subst this
    exact(by decide:7 < 13)
   ·intro j q hj
    obtain⟨p,h1,rfl,rfl⟩:=find_b hj
    exact atB_ok s out p h1
   ·intro j q hj
    obtain⟨p,h1,rfl,rfl⟩:=find_b hj
    exact atB_top s out p h1
   ·intro e b' h
    rw[h.2];rfl
   ·intro rw_ hr v hv
    simp only[ζv,ζw,or_false] at hr
    subst hr
    simp only[ζv,ζw,or_false] at hv
    rcases hv with rfl|rfl<;>rfl
   ·intro e b' h
    obtain⟨rfl,rfl⟩:=h
    refine H1.step rfl (H1.nil ?_)
    show YT _ _ _ _ _ _ _
    refine YT.cond (b:=false) rfl (YT.skip ?_)
    show YT _ _ _ _ _ _ _
    refine YT.gst (st':=((xsAt11 l s (out++[atN u2 u6]) S a u8.1 u8.2.1).D 70).st) (M3 (xsAt11 l s (out++[atN u2 u6]) S a u8.1 u8.2.1) (by rfl) rfl ⟨by rfl,by rfl⟩) ?_
    refine YT.piece (kAt11 l s (out++[atN u2 u6]) S a u8.1 u8.2.1) Z0 (r:=()) rfl (by rfl) fun st g=>?_
    show YT _ _ _ _ _ _ _
    refine YT.gst g ?_
    refine YT.piece (kAt12 l s (out++[atN u2 u6]) u8.1 u8.2.1) Z0 (r:=()) rfl (by rfl) fun st g=>?_
    exact⟨m,Nat.lt_succ_self m,rfl,(u8.1,u8.2.1,out++[atN u2 u6]),g,hit⟩
def afTs:List (Nat×V):=[(2,.ptr 2 0 0)]
def afL(s:ByteArray)(out:List Q9):List (Nat×Blk):=[(2,⟨1,true,[[.ref 900070 0 out.length]]⟩),(1000000,⟨1,true,[[.str s]]⟩)]
def afT(out:List Q9):List BT:=[BT.of 900070 Q7 2 out true]
def xAf(s:ByteArray)(out:List Q9):Ext:=Ext.of .normal (afTs++[(6,.fn 210 [] [.ptr 1000000 0 0])]) (afL s out) (afT out) (by rfl)
def eAf(s:ByteArray)(out:List Q9):Ext:=Ext.of .normal afTs (afL s out) (afT out) (by rfl)
theorem bsAtt(s:ByteArray)(out:List Q9):shB (ofL (xAf s out).bs)=ofL (atB s out):=by
 rw[shB_ofL]
 have:((xAf s out).bs.map fun p=>(sh p.1,p.2.ren sh))=atB s out:=by
  simp only[xAf,Ext.of,afL,afT,List.cons_append,List.nil_append,ξf,List.map_nil,BT.of,Blk.ren,sh_rows]
  kernel_rfl
 rw[this]
theorem loopAtt(s:ByteArray){r:List Q9}(h:attM s=some r) :
  TV Tryz.prog GG (.rangeFunc (.tmp 6) #[7] atAs atBd) ((xAf s []).D 13).st (fun e st=>e=.normal∧Gst GG st ((eAf s r).D 13).st):=by
 have ht:(fun i=>W5 sh (((xAf s []).D 13).st.t i))=tOf atTs:=by
  have:((xAf s []).D 13).st.t=tOf (xAf s []).ts:=rfl
  rw[this,tOf_shift]
  have:((xAf s []).ts.map fun p=>(p.1,W5 sh p.2))=atTs:=by kernel_rfl
  rw[this]
 have hb:Tryz.f210.body=some cAt:=by kernel_rfl
 refine TV.rangeF (f:=210) (fi:=Tryz.f210) (c:=cAt) (first:=[]) (caps:=[.ptr 2000000 0 0]) (R:=fun e b=>e=.normal∧b=ofL (atB s r)) ?_ Tryz.func210 hb (by kernel_rfl) (by kernel_rfl) ?_ (fun i=>?_) ?_ ?_
 ·show some ((fun i=>W5 sh (((xAf s []).D 13).st.t i)) 6)=_
  rw[ht];rfl
 ·intro b k hk
  obtain⟨q,h1,rfl,_⟩:=find_b (show ofL (xAf s []).bs b=some k from hk)
  show (((xAf s []).us).contains q.1 || uTop q.1)=true
  simp only[Ext.us,ζX,ζD,ζF]
  exact .inl (ζt.2 ⟨q,h1,rfl⟩)
 ·have:=congrFun ht i
  rw[show W5 sh (((xAf s []).D 13).st.t i)=tOf atTs i from this]
  exact S6 (by rfl) i
 ·have hbb:shB ((xAf s []).D 13).st.b=ofL (atB s []):=bsAtt s []
  rw[ht,hbb]
  have e:max Tryz.f210.ntmps (([]:List V).length+1+[V.ptr 2000000 0 0].length)=70:=by kernel_rfl
  rw[e]
  exact iterAtt s h
 ·intro e b' ho
  obtain⟨rfl,rfl⟩:=ho
  refine⟨.inl rfl,ofL (xAf s r).bs,(bsAtt s r).symm,?_,rfl,?_⟩
  ·show (G0 13 (xAf s []).ts (xAf s r).bs (xAf s []).us).known
   refine⟨fun i b hm=>?_,fun i k hk=>?_⟩
   ·have hm':b∈U2 (tOf (xAf s []).ts i):=hm
    unfold tOf at hm'
    cases hf:(xAf s []).ts.find? (fun p=>p.1==i) with
    | none=>rw[hf] at hm';simp[U2] at hm'
    | some p=>
     rw[hf] at hm'
     have all:((xAf s []).ts.all fun p=>(U2 p.2).all fun b=>(xAf s []).us.contains b)=true:=by rfl
     have:=ζE.1 (ζE.1 all p (ξh hf)) b hm'
     show ((xAf s []).us.contains b || uTop b)=true
     rw[this];rfl
   ·obtain⟨q,h1,rfl,rfl⟩:=find_b (show ofL (xAf s r).bs i=some k from hk)
    have husl:(xAf s r).us=(xAf s []).us:=rfl
    refine⟨?_,fun b hm=>?_⟩
    ·show ((xAf s []).us.contains q.1 || uTop q.1)=true
     rw[←husl]
     simp only[Ext.us,ζX,ζD,ζF]
     exact .inl (ζt.2 ⟨q,h1,rfl⟩)
    ·have:q∈afL s r++(afT r).map fun x=>(x.id,x.k):=h1
     rcases ζr.1 this with h2|h2
     ·have all:((afL s r).all fun q=>(H7 q.2.rows.flatten).all fun b=>(xAf s []).us.contains b)=true:=by rfl
      have:=ζE.1 (ζE.1 all q h2) b hm
      show ((xAf s []).us.contains b || uTop b)=true
      rw[this];rfl
     ·have hdat:=bts_dat _ h2
      rw[hdat.refs] at hm;simp at hm
  ·show Gst GG (G0 13 (xAf s []).ts (xAf s r).bs (xAf s []).us) _
   exact M3 (eAf s r) (by rfl) rfl ⟨by rfl,by rfl⟩
def subAtt(s:ByteArray):Sub Tryz.prog GG (List Q9):=
 ⟨.rangeFunc (.tmp 6) #[7] atAs atBd,13,xAf s [],attM s,eAf s,fun _ h=>loopAtt s h⟩
def cDe:Code:=Tryz.f60.body.getD .skip
def gDe0(s:ByteArray):TT (Unit):=
 .done ()
def xsDe0(s:ByteArray):Ext:=Ext.of .normal [(0,.str s)] [] [] (by rfl)
def xeDe0(s:ByteArray):(Unit)→Ext:=fun(r:Unit)=>Ext.of .normal [(1,.ptr 1 0 0),(2,.ptr 2 0 0),(3,.ptr 3 0 0)] [(1,⟨1,true,[[.str s]]⟩),(2,⟨4,true,[[.i 0,.i 0,.str ByteArray.empty,.nilsl]]⟩),(3,⟨1,true,[[.i 0]]⟩)] [] (by rfl)
theorem kDe0(s:ByteArray):Z9 Tryz.prog GG [0,1,2,3] 73 (cL cDe) (xsDe0 s) (gDe0 s) (xeDe0 s):=by unfold Z9;kernel_rfl
def gDe1(s:ByteArray):TT (Unit):=
 .br 0 (decide ((1200:Int) < (s.size:Int)))
 (.fail)
 (.br 0 (decide ((s.size:Int) < 20))
  (.fail)
  (.done ()))
def xsDe1(s:ByteArray):Ext:=Ext.of .normal [(1,.ptr 1 0 0),(2,.ptr 2 0 0),(3,.ptr 3 0 0)] [(1,⟨1,true,[[.str s]]⟩),(2,⟨4,true,[[.i 0,.i 0,.str ByteArray.empty,.nilsl]]⟩),(3,⟨1,true,[[.i 0]]⟩)] [] (by rfl)
def xeDe1(s:ByteArray):(Unit)→Ext:=fun(r:Unit)=>Ext.of .normal [(1,.ptr 1 0 0),(2,.ptr 2 0 0),(3,.ptr 3 0 0)] [(1,⟨1,true,[[.str s]]⟩),(2,⟨4,true,[[.i 0,.i 0,.str ByteArray.empty,.nilsl]]⟩),(3,⟨1,true,[[.i 0]]⟩)] [] (by rfl)
theorem kDe1(s:ByteArray):Z9 Tryz.prog GG [1,2,3,7,12] 73 (cL (cR cDe)) (xsDe1 s) (gDe1 s) (xeDe1 s):=by unfold Z9;kernel_rfl
def s128(p0 p1:Int)(p2:ByteArray):Sp (Int):=.ofFn 128 Z0 Tryz.func128 (show FnD Pg GG [0,1,2,5,6] Tryz.f128 [.i p0,.i p1,.snap [.str p2]] (.chk 1004 ((decide (0≤p1)&&decide (p1≤(p2.size:Int)))&&(decide (0≤p0)&&decide (p0≤(p1.toNat:Int)))) (.call 1009 (s129 (H5.mk (p2.extract p0.toNat p1.toNat) 0) (Q4 (p1 - p0))) [] [] fun r158=>.done r158.1):TT (Int)) (fun r=>.int .i64 r) by unfold FnD;kernel_rfl)
def s132(p0:ByteArray):Sp (Unit):=.ofFnB 132 [] Z0 Tryz.func132 rfl (fun _=>rfl) (show FnB Pg GG [0,1,2] Tryz.f132 [.str p0] (Ext.of .normal (U6 [.str p0]) [] [] (by rfl)) (.done ():TT (Unit)) (fun(r:Unit)=>.fn 210 [] [.ptr 1 0 0]) (fun(r:Unit)=>Ext.of .normal [] [(1,⟨1,true,[[.str p0]]⟩)] [] (by rfl)) by unfold FnB;kernel_rfl)
def s209(p0:ByteArray):Sp ((List Q9)):=.ofFnB 209 [] Z0 Tryz.func209 rfl (fun _=>rfl) (show FnB Pg GG [0,1,2,4,5,6,7] Tryz.f209 [.nilsl,.fn 210 [] [.ptr ωa 0 0]] (Ext.of .normal (U6 [.nilsl,.fn 210 [] [.ptr ωa 0 0]]) [(ωa,⟨1,true,[[.str p0]]⟩)] [] (by rfl)) (.gh 1 (.virtC 900070 2 0 2) (.sub (subAtt p0) fun r167=>.gh 0 (.share (VwW.o 900070 Q7 r167) 1) (.done r167)):TT ((List Q9))) (fun(r:(List Q9))=>Sl 2 Q7 r) (fun(r:(List Q9))=>Ext.of .normal [] [(ωa,⟨1,true,[[.str p0]]⟩)] [] (by rfl)) by unfold FnB;kernel_rfl)
def s131(p0:ByteArray):Sp ((List Q9)):=.ofFnB 131 [] Z0 Tryz.func131 rfl (fun _=>rfl) (show FnB Pg GG [0,2] Tryz.f131 [.fn 210 [] [.ptr ωa 0 0]] (Ext.of .normal (U6 [.fn 210 [] [.ptr ωa 0 0]]) [(ωa,⟨1,true,[[.str p0]]⟩)] [] (by rfl)) (.opr 1002 (Rule.callRead (s209 p0) (.func 209) #[.const (.slice none 0 0),.tmp 3] #[119,209] 4 [] [.nilsl,.fn 210 [] [.ptr ωa 0 0]] [] [(ωa,ωa,⟨1,true,[[.str p0]]⟩)] [] [(ωa,ωa)] (by kernel_rfl) (by kernel_rfl) (by kernel_rfl) (by kernel_rfl) (by kernel_rfl) (by kernel_rfl) (by kernel_rfl) (by kernel_rfl) (by kernel_rfl) (by kernel_rfl) (fun _=>by kernel_rfl) (fun _=>⟨by kernel_rfl,by kernel_rfl⟩)) fun r168=>.done r168:TT ((List Q9))) (fun(r:(List Q9))=>Sl 2 Q7 r) (fun(r:(List Q9))=>Ext.of .normal [] [(ωa,⟨1,true,[[.str p0]]⟩)] [] (by rfl)) by unfold FnB;kernel_rfl)
def gDe2(s:ByteArray):TT (Int×Int×(List Q9)):=
 .view 7002 (s128 2 4 s) [] fun r159=>
 .br 0 (decide ((s.size:Int) < (Q4 ((20:Int)+r159))))
 (.fail)
 (.view 10002 (s128 0 2 s) [] fun r160=>
  .cnd 11 []
  (.br 11004 (decide (r160 < 16384))
   (.view 11005 (s128 4 8 s) [] fun r161=>
    .br 11009 (r161==554869826)
    (.call 11015 (s130 ((s.size:Int)==(Q4 ((20:Int)+r159)))) [] [] fun r162=>
     .done ())
    (.call 11015 (s130 false) [] [] fun r163=>
     .done ()))
   (.call 11015 (s130 false) [] [] fun r164=>
    .done ()))
  (fun(c165:Unit)=>[]) fun c165=>
  .chk 12019 ((decide (0≤(20:Int))&&decide ((20:Int)≤(s.size:Int)))&&true) (.chk 12021 (decide (0≤(20:Int))&&decide ((20:Int)≤(s.size:Int))) (.call 12022 (s132 (s.extract 20 s.size)) [] [(1,500016)] fun r166=>
  .opr 12023 (Rule.callRead (s131 (s.extract 20 s.size)) (.func 131) #[.tmp 65] #[209] 66 [] [.fn 210 [] [.ptr 500016 0 0]] [] [(1000000,500016,⟨1,true,[[.str (s.extract 20 s.size)]]⟩)] [] [(1000000,500016)] (by kernel_rfl) (by kernel_rfl) (by kernel_rfl) (by kernel_rfl) (by kernel_rfl) (by kernel_rfl) (by kernel_rfl) (by kernel_rfl) (by kernel_rfl) (by kernel_rfl) (fun _=>by kernel_rfl) (fun _=>⟨by kernel_rfl,by kernel_rfl⟩)) fun r169=>
  .call 13002 (s118 (E9.mk (bOr .i64 (Y2 .i64 (Z3 .i64 r160 4) 1) (Y2 .i64 (Z3 .i64 r160 7) 2)) (bOr .i64 (bOr .i64 (Y2 .i64 r160 15) (Y2 .i64 (Z3 .i64 r160 1) 112)) (Y2 .i64 (Z3 .i64 r160 2) 3968)) (s.extract 8 20) r169)) [] [] fun r170=>
  .call 13004 (s130 (r170==0)) [] [] fun r171=>
  .done ((bOr .i64 (Y2 .i64 (Z3 .i64 r160 4) 1) (Y2 .i64 (Z3 .i64 r160 7) 2)),(bOr .i64 (bOr .i64 (Y2 .i64 r160 15) (Y2 .i64 (Z3 .i64 r160 1) 112)) (Y2 .i64 (Z3 .i64 r160 2) 3968)),r169))))
def xsDe2(s:ByteArray):Ext:=Ext.of .normal [(1,.ptr 1 0 0),(2,.ptr 2 0 0),(3,.ptr 3 0 0),(17,.fn 127 [] [.ptr 2 0 0,.ptr 3 0 0])] [(1,⟨1,true,[[.str s]]⟩),(2,⟨4,true,[[.i 0,.i 0,.str ByteArray.empty,.nilsl]]⟩),(3,⟨1,true,[[.i 0]]⟩)] [] (by rfl)
def xeDe2(s:ByteArray):(Int×Int×(List Q9))→Ext:=fun(r:Int×Int×(List Q9))=>Ext.of .ret [(2,.ptr 2 0 0),(3,.ptr 3 0 0)] [(2,⟨4,true,[[.i r.1,.i r.2.1,.str (s.extract 8 20),.sl false 2 (List.map Q7.c r.2.2)]]⟩),(3,⟨1,true,[[.i 0]]⟩)] [] (by rfl)
theorem kDe2(s:ByteArray):Z9 Tryz.prog GG [1,2,3,4,5,6,17,25] 73 (cR (cR (cR cDe))) (xsDe2 s) (gDe2 s) (xeDe2 s):=by unfold Z9;kernel_rfl
def Rule.neqNil{P:Program}{G:Nat→Option (List V)}(t u:TypeId)(ox:Operand)(d:Nat){ms:Array (String×TypeId)}(ht:P.underlying t=some (.interface ms)):Rule P G Unit where
 op:=.binOp .neq t ox (.const .nilIface) u
 dst:=some d
 vals:=[(ox,.ifc .nilIface)]
 blks:=[]
 o:=some ()
 ws:=fun _=>[.t d (.bool false)]
 dt:=[]
 dat:=fun _ _ _ _ h=>by simp at h
 ok:=fun _ _ x st hop hdst hvs _ hd=>by
  obtain⟨hdn,hu⟩:=hd d rfl
  have key:N0 P G x st (st.put (some d) (.bool false)):=by
   rw[←hdst]
   refine X9 (by rw[hdst];simpa[H2] using hdn) fun γ a w hs=>?_
   have hx:a.eval ox=.nilIface:=(hvs (ox,.ifc .nilIface) (by simp) γ a w hs).ifc_inv
   have hr:=Lib.run_neq_nil_nil w ht
   refine⟨.bool false,?_,.data (.bool _)⟩
   have he:a.eval (.const .nilIface)=.nilIface:=rfl
   have hg:(eqGuard .neq t ox (.const .nilIface) Value.nilIface Value.nilIface:Sem Unit)=pure ():=by cases ox<;>rfl
   simp[execOp,hop,hx,he,hg,hr]
  exact key
def deOps:Array Oper:=rOps (cL (cR (cR cDe)))
def deO0:Oper:=(deOps[0]?).get (by kernel_rfl)
def deO1:Oper:=(deOps[1]?).get (by kernel_rfl)
theorem eDe:Tryz.f60.body=some ([cL cDe,cL (cR cDe)].foldr Code.seq (.seq (.region 5 #[deO0,deO1] false) (cR (cR (cR cDe))))):=by kernel_rfl
def c1De:Code:=Tryz.f127.body.getD .skip
def d1Ops:Array Oper:=rOps (cL c1De)
def d1O0:Oper:=(d1Ops[0]?).get (by kernel_rfl)
def d1O1:Oper:=(d1Ops[1]?).get (by kernel_rfl)
theorem e1De:Tryz.f127.body=some (.seq (.region 0 #[d1O0,d1O1] false) (cR c1De)):=by kernel_rfl
def x1De:Ext:=Ext.of .normal [(2,.ifc .nilIface),(5,.ifc .nilIface)] [] [] (by rfl)
def x1De2:Ext:=Ext.of .normal [] [] [] (by rfl)
def g1De:TT Unit:=.opr 1002 (Rule.neqNil (ms:=#[]) 20 20 (.tmp 6) 7 (by kernel_rfl)) fun _=>.ff (.done ())
theorem k1De:Z9 Tryz.prog GG [2,5,7] 17 (cR c1De) x1De g1De (fun _=>x1De2):=by unfold Z9;kernel_rfl
theorem callD1:CallD Tryz.prog GG 127 [.undef,.undef] noB .returning .returning noB:=by
 refine callD_body (n:=17) (t1:=5) (t2:=2) (rv:=.nilIface) Tryz.func127 e1De (by kernel_rfl) (by kernel_rfl) (by kernel_rfl) (by kernel_rfl) (by kernel_rfl) (by kernel_rfl) (by kernel_rfl) (by decide) (by decide) rfl (.inl ⟨rfl,rfl,rfl⟩) (by kernel_rfl) ?_
 have h:=(k1De).tv Z0 (r:=()) rfl (by rfl)
 have g:Gst GG (((entry 17 [.undef,.undef] noB).put (some 5) (.ifc .nilIface)).put (some 2) (.ifc .nilIface)) ((x1De.D 17).st):=M3 x1De (by rfl) rfl ⟨by rfl,by rfl⟩
 exact(TV.ghost g h).mono fun e s hq=>⟨.inl hq.1,fun b k hk=>by simp[noB] at hk⟩
def decM(s:ByteArray):Option (E9×Int):=
 (gDe1 s).run.bind fun _=>(gDe2 s).run.bind fun r=>some (⟨r.1,r.2.1,s.extract 8 20,r.2.2⟩,0)
theorem resDe(s:ByteArray)(r:Int×Int×List Q9):F7 Tryz.prog ((xeDe2 s r).D 73).st Tryz.f60.results.toList=some (.tup [.agg [.int .i64 r.1,.int .i64 r.2.1,.str (s.extract 8 20),.sl false 2 (List.map Q7.c r.2.2)],.int .i64 0]):=by kernel_rfl
theorem flatDe{γ:Gh}{w:World}{bs bs':Nat→Option Blk}{u u':Nat→Bool}{a b e:Int}{s:ByteArray}{l:List Q9}{v:Value}(h:Rep γ w bs u (.tup [.agg [.int .i64 a,.int .i64 b,.str s,.sl false 2 (List.map Q7.c l)],.int .i64 e]) v) :
  Rep γ w bs' u' (.tup [.agg [.int .i64 a,.int .i64 b,.str s,.sl false 2 (List.map Q7.c l)],.int .i64 e]) v:=
 Rep.dataMono (γ:=γ) (γ':=γ) (fun B o v h1 h2=>⟨h1,h2⟩) h (by rfl)
theorem dec_ok(s:ByteArray){r:E9×Int}(h:decM s=some r):CallC Tryz.prog GG 60 [.str s] (ofL []) (.tup [.agg [.int .i64 r.1.gl,.int .i64 r.1.gm,.str r.1.fp,.sl false 2 (List.map Q7.c r.1.fW)],.int .i64 r.2]) (ofL []):=by
 unfold decM at h
 obtain⟨u1,h1,h⟩:=ζc.1 h
 obtain⟨u2,h2,h⟩:=ζc.1 h
 obtain rfl:=ζR h
 have e0:entry 73 [.str s] (ofL [])=((xsDe0 s).D 73).st:=(entry_ext (x:=xsDe0 s) (by rfl) (by rfl) 73).symm
 have t0:=(kDe0 s).tv Z0 (r:=()) rfl (by rfl)
 have t1:=(kDe1 s).tv Z0 h1 (by rfl)
 have t2:=(kDe2 s).tv Z0 h2 (by rfl)
 have hnoB:(ofL []:Nat→Option Blk)=noB:=rfl
 have hx:((xeDe1 s u1).D 73).st=((xeDe1 s ()).D 73).st:=rfl
 rw[hnoB] at e0 ⊢
 have st5:StepV Tryz.prog GG #[deO0,deO1] 0 ((xeDe1 s ()).D 73).st (((xeDe1 s ()).D 73).st.put (some 17) (.fn 127 [] [.ptr 2 0 0,.ptr 3 0 0])):=stepG_spec (by rfl)
 have g0:X0 #[deO0,deO1] ((xeDe1 s ()).D 73).st deO0=some true:=by rfl
 have h0:N0 Tryz.prog GG deO0 ((xeDe1 s ()).D 73).st (((xeDe1 s ()).D 73).st.put (some 17) (.fn 127 [] [.ptr 2 0 0,.ptr 3 0 0])):=by
  unfold StepV at st5
  simp only[show (#[deO0,deO1]:Array Oper)[0]?=some deO0 from rfl] at st5
  rcases st5 with⟨_,h⟩|⟨h,_⟩
  ·exact h
  ·rw[g0] at h;simp at h
 have gB:Gst GG (((xeDe1 s ()).D 73).st.put (some 17) (.fn 127 [] [.ptr 2 0 0,.ptr 3 0 0])) ((xsDe2 s).D 73).st:=M3 (xsDe2 s) (by rfl) rfl ⟨by rfl,by rfl⟩
 refine callC_defer0 (As:=[cL cDe,cL (cR cDe)]) (rest:=cR (cR (cR cDe))) (rid:=5) (t:=17) (n:=73) (o0:=deO0) (o1:=deO1) (caps:=[.ptr 2 0 0,.ptr 3 0 0]) (S1:=((xeDe1 s ()).D 73).st) (S2:=((xeDe2 s u2).D 73).st) (ex:=.ret)
  Tryz.func60 eDe (by kernel_rfl) ?_ h0 g0 (by kernel_rfl) (by kernel_rfl) (by rfl) ((TV.ghost gB t2).mono fun e s hq=>hq) (.inl rfl) (show 17 < 73 by decide) Tryz.func127 (by kernel_rfl) (by kernel_rfl) callD1 (resDe s u2) fun γ w v h=>flatDe h
 rw[e0]
 show TV _ _ (cL cDe) _ _
 refine t0.mono fun e st hq=>?_
 obtain⟨rfl,g⟩:=hq
 show TV _ _ (cL (cR cDe)) _ _
 exact TV.ghost g (t1.mono fun e st hq=>⟨hq.1,by rw[←hx];exact hq.2⟩)
def decSpec(s:ByteArray):EV.Spec Tryz.prog GG (E9×Int):=
 ⟨60,[.str s],[],decM s,fun r=>.tup [.agg [.int .i64 r.1.gl,.int .i64 r.1.gm,.str r.1.fp,.sl false 2 (List.map Q7.c r.1.fW)],.int .i64 r.2],fun _=>[],[],fun _ _ h=>by simp at h,fun r h=>dec_ok s h⟩
structure Z7 where
 fe:ByteArray
 fh:Int
structure SHost where
 fs:ByteArray
structure U7 where
 fy:Int
 fp:Int
 ft:Int
 fo:Bool
 fC:Int
 fF:Bool
 fO:Z7
structure Q2 where
 fy:Int
 fX:Int
 ft:Int
 fY:ByteArray
 fG:Z7
 fT:Z7
structure Q6 where
 fH:Int
 fJ:Int
 ft:Int
 fD:Int
structure Y3 where
 fo:Bool
 fu:(List Q2)
 fw:(List Q2)
 fm:(List Q6)
structure U0 where
 fc:Y3
structure SLike where
 fL:Z7
 fM:Z7
 gg:Int
structure O2 where
 fk:SLike
 fv:Bool
def Q0:Ty Q2:=⟨fun x=>[.i x.fy,.i x.fX,.i x.ft,.str x.fY,.str x.fG.fe,.i x.fG.fh,.str x.fT.fe,.i x.fT.fh],fun x=>[.i x.fy,.i x.fX,.i x.ft,.str x.fY,.str x.fG.fe,.i x.fG.fh,.str x.fT.fe,.i x.fT.fh],fun _=>rfl,fun _=>rfl,fun _ _=>rfl,fun _=>rfl⟩
def Q3:Ty Q6:=⟨fun x=>[.i x.fH,.i x.fJ,.i x.ft,.i x.fD],fun x=>[.i x.fH,.i x.fJ,.i x.ft,.i x.fD],fun _=>rfl,fun _=>rfl,fun _ _=>rfl,fun _=>rfl⟩
def T0:Ty O2:=⟨fun x=>[.str x.fk.fL.fe,.i x.fk.fL.fh,.str x.fk.fM.fe,.i x.fk.fM.fh,.i x.fk.gg,.bool x.fv],fun x=>[.str x.fk.fL.fe,.i x.fk.fL.fh,.str x.fk.fM.fe,.i x.fk.fM.fh,.i x.fk.gg,.bool x.fv],fun _=>rfl,fun _=>rfl,fun _ _=>rfl,fun _=>rfl⟩
def s126(p0:E9)(p1:List Q9)(p2:Int):Sp (ByteArray):=wrSpec p0.gl p0.gm p0.fp p0.fW p1 p2
def s195(p0:Q9)(p1:Int):Sp (Bool):=.ofFn 195 Z0 Tryz.func195 (show FnD Pg GG [0,1,2,3] Tryz.f195 [.agg (Q7.c p0),.snap [.i p1]] (.done (p0.fy==p1):TT (Bool)) (fun r=>.bool r) by unfold FnD;kernel_rfl)
def s133(p0:List Q9)(p1:Int):Sp (Int):=.ofFn 133 Z0 Tryz.func133 (show FnD Pg GG [0,1,4,5,7,8,9,16] Tryz.f133 [Sl 2 Q7 p0,.fn 195 [] [.snap [.i p1]]] (.bind2 1 (.lp (fun(l176:Int)=>Ext.l .normal [(0,Sl 2 Q7 p0),(1,.fn 195 [] [.snap [.i p1]]),(4,.i 0),(7,.i (Y9 Q7 p0)),(8,.i l176)] []) (fun l176=>.br 0 (decide (l176 < (Y9 Q7 p0))) (.row 4004 Q7 p0 l176.toNat (decide (0≤l176)) fun x177=>.call 4006 (s195 x177 p1) [] [] fun r178=>.br 0 r178 (.done (.inr (.inl l176))) (.done (.inl (Q4 (l176+1))))) (.done (.inr (.inr ())))) 0) (fun(e179:Int)=>Ext.l .ret [(4,.i e179)] []) (fun(e180:Unit)=>Ext.l (.exit 0) [(4,.i 0)] []) (fun e179=>.done e179) (fun e180=>.done (-1)):TT (Int)) (fun r=>.int .i64 r) by unfold FnD;kernel_rfl)
def s194(p0:List Q9)(p1:Int):Sp (Bool):=.ofFn 194 Z0 Tryz.func194 (show FnD Pg GG [0,1,4] Tryz.f194 [Sl 2 Q7 p0,.fn 195 [] [.snap [.i p1]]] (.call 1003 (s133 p0 p1) [] [] fun r181=>.done (decide ((0:Int)≤r181)):TT (Bool)) (fun r=>.bool r) by unfold FnD;kernel_rfl)
def s119(p0:E9)(p1:Int):Sp (Bool):=.ofFn 119 Z0 Tryz.func119 (show FnD Pg GG [0,1,2,3,4] Tryz.f119 [.agg [.i p0.gl,.i p0.gm,.str p0.fp,Sl 2 Q7 p0.fW],.i p1] (.view 1004 (s194 p0.fW p1) [] fun r182=>.done r182:TT (Bool)) (fun r=>.bool r) by unfold FnD;kernel_rfl)
def g121(p0:E9)(p1:List Q9)(p2:ByteArray):TT (ByteArray):=.call 1004 (s126 p0 p1 36) [] [] fun r176=>.call 1005 (s197 p2 r176) [] [] fun r177=>.done r177.1
def s121(p0:E9)(p1:List Q9)(p2:ByteArray):Sp (ByteArray):=.ofFn 121 Z0 Tryz.func121 (show FnD Pg GG [0,1,2,3,6,7] Tryz.f121 [.agg [.i p0.gl,.i p0.gm,.str p0.fp,Sl 2 Q7 p0.fW],Sl 2 Q7 p1,.str p2] (g121 p0 p1 p2) (fun r=>.str r) by unfold FnD;kernel_rfl)
def g196(p0:List Q9):TT Unit:=.app 3003 Q7 [] p0 24 true (by intros;rfl) (.done ())
theorem k196y:Z9 Tryz.prog GG [2] 8 (I7 Tryz.f196.body) (Ext.l .normal [(2,.nilsl)] []) (.done ():TT Unit) (fun _=>Ext.l .ret [(2,.nilsl)] []):=by unfold Z9;kernel_rfl
theorem k196r(p0:List Q9):Z9 Tryz.prog GG [0,2,5,6,7] 8 (D2 Tryz.f196.body) (Ext.l .normal [(0,.sl false 2 (List.map Q7.c p0)),(2,.nilsl)] []) (g196 p0) (fun _=>Ext.of .ret [(2,.ref 7 0 ([]++p0).length)] [] [BT.of 7 Q7 2 ([]++p0)] (by rfl)):=by unfold Z9;kernel_rfl
theorem k196(p0:(List Q9)){r:Unit}(h:(g196 p0).run=some r):CallC Tryz.prog GG 196 [.sl false 2 (List.map Q7.c p0)] (ofL []) (.ref 7 0 p0.length) (ofL [(7,⟨2,true,List.map Q7.c p0⟩)]):=
 clone_ok (ty:=Q7) (ops0:=T9 Tryz.f196.body) (ops1:=T8 Tryz.f196.body) (yes:=I7 Tryz.f196.body) (rest:=D2 Tryz.f196.body) (t:=119) Z0 (by decide) Tryz.func196 (by kernel_rfl) (by kernel_rfl) (by kernel_rfl) (by kernel_rfl) (by kernel_rfl) (by kernel_rfl) (by kernel_rfl) (by kernel_rfl) (by kernel_rfl) k196y (k196r p0) (by rfl) h
def s196(p0:List Q9):Sp Unit:=⟨196,[Sl 2 Q7 p0],[],(g196 p0).run,fun _=>Rf 7 p0,fun _=>[(7,⟨2,true,List.map Q7.c p0⟩)],[7],fun _ p hp _=>by rw[ζu.1 hp];exact Q7.data _,fun _ h=>k196 p0 h⟩
def s120(p0:E9)(p1:Q9):Sp (E9×Int):=.ofFn 120 Z0 Tryz.func120 (show FnD Pg GG [0,1,2,3,4,5,15] Tryz.f120 [.agg [.i p0.gl,.i p0.gm,.str p0.fp,Sl 2 Q7 p0.fW],.agg (Q7.c p1)] (.call 1003 (s196 p0.fW) [] [(7,500017)] fun r179=>.app 1006 Q7 p0.fW [p1] 24 false (by intro h;cases h) (.view 2002 (s118 (E9.mk p0.gl p0.gm p0.fp (p0.fW++[p1]))) [(VwW.o 11 Q7 (p0.fW++[p1]))] fun r180=>.br 0 (r180 != 0) (.fail) (.gh 0 (.share (VwW.o 11 Q7 (p0.fW++[p1])) 1) (.done ((E9.mk p0.gl p0.gm p0.fp (p0.fW++[p1])),0)))):TT (E9×Int)) (fun r=>.tup [.agg [.int .i64 r.1.gl,.int .i64 r.1.gm,.str r.1.fp,Sl 2 Q7 r.1.fW],.int .i64 r.2]) by unfold FnD;kernel_rfl)
def g57(p0:E9)(p1:ByteArray):TT (E9×Int):=.call 1002 (s118 p0) [] [] fun r172=>.br 0 (r172 != 0) (.fail) (.br 0 (decide ((4096:Int) < (p1.size:Int))) (.fail) (.cnd 6 [19] (.call 6002 (s119 p0 8) [] [] fun r173=>.br 6004 r173 (.fail) (.call 6005 (s119 p0 32808) [] [] fun r174=>.done r174)) (fun(c175:Bool)=>[.bool c175]) fun c175=>.br 0 c175 (.fail) (.call 8006 (s121 p0 p0.fW p1) [] [] fun r178=>.call 8008 (s120 p0 (Q9.mk 8 r178)) [] [] fun r181=>.done (r181.1,r181.2))))
def s57(p0:E9)(p1:ByteArray):Sp (E9×Int):=.ofFn 57 Z0 Tryz.func57 (show FnD Pg GG [0,1,2,4,5,6,9,14,19] Tryz.f57 [.agg [.i p0.gl,.i p0.gm,.str p0.fp,Sl 2 Q7 p0.fW],.str p1] (g57 p0 p1) (fun r=>.tup [.agg [.i r.1.gl,.i r.1.gm,.str r.1.fp,Sl 2 Q7 r.1.fW],.i r.2]) by unfold FnD;kernel_rfl)
def s59(p0:E9):Sp (ByteArray×Int):=.ofFn 59 Z0 Tryz.func59 (show FnD Pg GG [0,1,2,3,4,8] Tryz.f59 [.agg [.i p0.gl,.i p0.gm,.str p0.fp,Sl 2 Q7 p0.fW]] (.call 1002 (s118 p0) [] [] fun r182=>.br 0 (r182 != 0) (.fail) (.call 4004 (s126 p0 p0.fW 0) [] [] fun r183=>.done (r183,0)):TT (ByteArray×Int)) (fun r=>.tup [.str r.1,.int .i64 r.2]) by unfold FnD;kernel_rfl)
def s134(p0:Q9):Sp (Bool):=.ofFn 134 Z0 Tryz.func134 (show FnD Pg GG [0,1,2] Tryz.f134 [.agg (Q7.c p0)] (.done (p0.fy==8):TT (Bool)) (fun r=>.bool r) by unfold FnD;kernel_rfl)
def s133_1(p0:List Q9):Sp (Int):=.ofFn 133 Z0 Tryz.func133 (show FnD Pg GG [0,1,4,5,7,8,9,16] Tryz.f133 [Sl 2 Q7 p0,.fn 134 [] []] (.bind2 1 (.lp (fun(l189:Int)=>Ext.l .normal [(0,Sl 2 Q7 p0),(1,.fn 134 [] []),(4,.i 0),(7,.i (Y9 Q7 p0)),(8,.i l189)] []) (fun l189=>.br 0 (decide (l189 < (Y9 Q7 p0))) (.row 4004 Q7 p0 l189.toNat (decide (0≤l189)) fun x190=>.call 4006 (s134 x190) [] [] fun r191=>.br 0 r191 (.done (.inr (.inl l189))) (.done (.inl (Q4 (l189+1))))) (.fail)) 0) (fun(e192:Int)=>Ext.l .ret [(4,.i e192)] []) (fun(e193:Unit)=>Ext.l (.exit 0) [(4,.i 0)] []) (fun e192=>.done e192) (fun _=>.fail):TT (Int)) (fun r=>.int .i64 r) by unfold FnD;kernel_rfl)
def g61(p0:E9)(p1:ByteArray):TT (Int):=.call 1002 (s118 p0) [] [] fun r184=>.br 0 (r184 != 0) (.fail) (.br 0 (decide ((4096:Int) < (p1.size:Int))) (.fail) (.call 6002 (s119 p0 8) [] [] fun r185=>.br 0 (!r185) (.fail) (.call 8003 (s133_1 p0.fW) [] [] fun r194=>.row 9004 Q7 p0.fW r194.toNat (decide (0≤r194)) fun x195=>.chk 9011 (decide (0≤r194)&&decide (r194≤((mlenn Q7 p0.fW):Int))) (.re 9011 (ReW.cutHi 34 2 Q7 p0.fW r194.toNat) (.call 9013 (s121 p0 (p0.fW.take r194.toNat) p1) [] [] fun r196=>.br 0 (!decide (x195.gj=r196)) (.done 9) (.done 0))))))
def s61(p0:E9)(p1:ByteArray):Sp (Int):=.ofFn 61 Z0 Tryz.func61 (show FnD Pg GG [0,1,2,4,5,6,9,13,17,37] Tryz.f61 [.agg [.i p0.gl,.i p0.gm,.str p0.fp,Sl 2 Q7 p0.fW],.str p1] (g61 p0 p1) (fun r=>.int .i64 r) by unfold FnD;kernel_rfl)
def s135(p0:ByteArray):Sp (Int):=.ofFn 135 Z0 Tryz.func135 (show FnD Pg GG [0,2,3,5,7,8,9,10] Tryz.f135 [.str p0] (.opr 2002 (Rule.octets (ty:=W0) (s:=9) (t:=73) (e:=5) (.tmp 6) 7 p0 (by kernel_rfl) (by kernel_rfl) (by kernel_rfl) (by kernel_rfl) (fun _=>rfl)) fun _=>.bind 1 (.lp (fun(l199:Int×Int)=>Ext.of .normal [(2,.i 0),(3,.i l199.1),(7,.ref 7 0 ((Y7 p0).length)),(8,.i ((Y7 p0).length:Int)),(9,.i l199.2)] [] [BT.of 7 W0 1 (Y7 p0) true] (by rfl)) (fun l199=>.br 0 (decide (l199.2 < ((Y7 p0).length:Int))) (.chk 4001 (decide (0≤l199.2)&&decide (l199.2 < ((Y7 p0).length:Int))) (.row 4002 W0 (Y7 p0) (0+l199.2.toNat) true fun x200=>.done (.inl ((bOr .i64 (V9 .i64 l199.1 8) (Q4 x200)),(Q4 (l199.2+1)))))) (.done (.inr l199.1))) (0,0)) (fun(e201:Int)=>Ext.l (.exit 0) [(2,.i 0),(3,.i e201)] []) (fun e201=>.done e201):TT (Int)) (fun r=>.int .i64 r) by unfold FnD;kernel_rfl)
def g179(p0:ByteArray):TT (SHost×Int):=.cnd 1 [11] (.br 1005 ((p0.size:Int) != 4) (.done ((p0.size:Int) != 16)) (.done false)) (fun(c223:Bool)=>[.bool c223]) fun c223=>.br 0 c223 (.done ((SHost.mk ByteArray.empty),2)) (.done ((SHost.mk p0),0))
def s179(p0:ByteArray):Sp (SHost×Int):=.ofFn 179 Z0 Tryz.func179 (show FnD Pg GG [0,2,3,11] Tryz.f179 [.str p0] (g179 p0) (fun r=>.tup [.agg [.str r.1.fs],.i r.2]) by unfold FnD;kernel_rfl)
def g101(p0:Z7):TT (Int):=.call 1003 (s179 p0.fe) [] [] fun r226=>.cnd 2 [22] (.br 2004 (r226.2 != 0) (.done true) (.br 2009 (decide (p0.fh < 0)) (.done true) (.done (decide ((65535:Int) < p0.fh))))) (fun(c227:Bool)=>[.bool c227]) fun c227=>.br 0 c227 (.done 2) (.done 0)
def s101(p0:Z7):Sp (Int):=.ofFn 101 Z0 Tryz.func101 (show FnD Pg GG [0,1,2,4,22] Tryz.f101 [.agg [.str p0.fe,.i p0.fh]] (g101 p0) (fun r=>.int .i64 r) by unfold FnD;kernel_rfl)
def s62(p0:E9):Sp (U7):=.ofFn 62 Z0 Tryz.func62 (show FnD Pg GG [0,1,2,3,5,12,13,14,15,18,33,57,62] Tryz.f62 [.agg [.i p0.gl,.i p0.gm,.str p0.fp,Sl 2 Q7 p0.fW]] (.chk 1003 (decide (0≤(5:Int))&&decide ((5:Int)≤(p0.fp.size:Int))) (.call 1004 (s135 (p0.fp.extract 5 p0.fp.size)) [] [] fun r202=>.bind 1 (.lp (fun(l210:Int×Int×Bool×Int×Bool×ByteArray×Int×Int)=>Ext.l .normal [(1,.ptr 1 0 0),(2,.ptr 2 0 0),(3,.ptr 3 0 0),(12,Sl 2 Q7 p0.fW),(13,.i (Y9 Q7 p0.fW)),(14,.i l210.q.2.2.2)] [(1,⟨4,true,[[.i p0.gl,.i p0.gm,.str p0.fp,Sl 2 Q7 p0.fW]]⟩),(2,⟨8,true,[[.i 0,.i 0,.i 0,.bool false,.i 0,.bool false,.str ByteArray.empty,.i 0]]⟩),(3,⟨8,true,[[.i l210.1,.i r202,.i l210.2.1,.bool l210.2.2.1,.i l210.2.2.2.1,.bool l210.q.1,.str l210.q.2.1,.i l210.q.2.2.1]]⟩)]) (fun l210=>.br 0 (decide (l210.q.2.2.2 < (Y9 Q7 p0.fW))) (.row 4001 Q7 p0.fW l210.q.2.2.2.toNat (decide (0≤l210.q.2.2.2)) fun x211=>.cnd 5 [18] (.br 5005 (x211.fy==36) (.done ((x211.gj.size:Int)==4)) (.done false)) (fun(c212:Bool)=>[.bool c212]) fun c212=>.br 0 c212 (.call 6003 (s135 x211.gj) [] [] fun r213=>.done (.inl (1,r213,l210.2.2.1,l210.2.2.2.1,l210.q.1,l210.q.2.1,l210.q.2.2.1,(Q4 (l210.q.2.2.2+1))))) (.cnd 7 [33] (.br 7005 (x211.fy==32810) (.done ((x211.gj.size:Int)==8)) (.br 7010 (x211.fy==32809) (.fail) (.done false))) (fun(c214:Bool)=>[.bool c214]) fun c214=>.br 0 c214 (.chk 8006 (decide (0≤(1:Int))&&decide ((1:Int)≤(x211.gj.size:Int))) (.call 8007 (s135 (x211.gj.extract 1 x211.gj.size)) [] [] fun r215=>.done (.inl (l210.1,l210.2.1,(x211.fy==32810),r215,l210.q.1,l210.q.2.1,l210.q.2.2.1,(Q4 (l210.q.2.2.2+1)))))) (.br 0 (x211.fy==37) (.fail) (.br 0 (x211.fy==32) (.fail) (.done (.inl (l210.1,l210.2.1,l210.2.2.1,l210.2.2.2.1,l210.q.1,l210.q.2.1,l210.q.2.2.1,(Q4 (l210.q.2.2.2+1))))))))) (.done (.inr (l210.1,r202,l210.2.1,l210.2.2.1,l210.2.2.2.1,l210.q.1,l210.q.2.1,l210.q.2.2.1)))) (3,0,false,0,false,ByteArray.empty,0,0)) (fun(e217:Int×Int×Int×Bool×Int×Bool×ByteArray×Int)=>Ext.l (.exit 0) [(2,.ptr 2 0 0),(3,.ptr 3 0 0)] [(2,⟨8,true,[[.i 0,.i 0,.i 0,.bool false,.i 0,.bool false,.str ByteArray.empty,.i 0]]⟩),(3,⟨8,true,[[.i e217.1,.i e217.2.1,.i e217.2.2.1,.bool e217.2.2.2.1,.i e217.q.1,.bool e217.q.2.1,.str e217.q.2.2.1,.i e217.q.2.2.2]]⟩)]) (fun e217=>.done (U7.mk e217.1 e217.2.1 e217.2.2.1 e217.2.2.2.1 e217.q.1 e217.q.2.1 (Z7.mk e217.q.2.2.1 e217.q.2.2.2)))):TT (U7)) (fun r=>.agg [.int .i64 r.fy,.int .i64 r.fp,.int .i64 r.ft,.bool r.fo,.int .i64 r.fC,.bool r.fF,.str r.fO.fe,.int .i64 r.fO.fh]) by unfold FnD;kernel_rfl)
def s122(p0 p1:Int):Sp (ByteArray):=.ofFn 122 Z0 Tryz.func122 (show FnD Pg GG [0,1,4,5] Tryz.f122 [.i p0,.i p1] (.call 1003 (s198 p0 p1) [] [] fun r218=>.done r218.1:TT (ByteArray)) (fun r=>.str r) by unfold FnD;kernel_rfl)
def s123(p0:Int)(p1:ByteArray)(p2 p3:Int)(p4:ByteArray):Sp ((List Q9)):=.ofFnB 123 [11] Z0 Tryz.func123 rfl (fun _=>rfl) (show FnB Pg GG [0,1,2] Tryz.f123 [.i p0,.str p1,.ptr ωa 0 0] (Ext.of .normal (U6 [.i p0,.str p1,.ptr ωa 0 0]) [(ωa,⟨4,true,[[.i p2,.i p3,.str p4,.nilsl]]⟩)] [] (by rfl)) (.app 7 Q7 [] [(Q9.mk p0 p1)] 24 false (by intro h;cases h) (.done ([]++[(Q9.mk p0 p1)])):TT ((List Q9))) (fun(r:(List Q9))=>.tup []) (fun(r:(List Q9))=>Ext.of .normal [] [(ωa,⟨4,true,[[.i p2,.i p3,.str p4,Rf 11 r]]⟩)] [Bt 11 Q7 2 r] (by rfl)) by unfold FnB;kernel_rfl)
def s123_1(p0:Int)(p1:ByteArray)(p2 p3:Int)(p4:ByteArray)(p5:List Q9):Sp ((List Q9)):=.ofFnB 123 [11] Z0 Tryz.func123 rfl (fun _=>rfl) (show FnB Pg GG [0,1,2] Tryz.f123 [.i p0,.str p1,.ptr ωa 0 0] (Ext.of .normal (U6 [.i p0,.str p1,.ptr ωa 0 0]) [(ωa,⟨4,true,[[.i p2,.i p3,.str p4,Rf ωb p5]]⟩)] [Bt ωb Q7 2 p5] (by rfl)) (.app 7 Q7 p5 [(Q9.mk p0 p1)] 24 false (by intro h;cases h) (.done (p5++[(Q9.mk p0 p1)])):TT ((List Q9))) (fun(r:(List Q9))=>.tup []) (fun(r:(List Q9))=>Ext.of .normal [] [(ωa,⟨4,true,[[.i p2,.i p3,.str p4,Rf 11 r]]⟩)] [Bt 11 Q7 2 r] (by rfl)) by unfold FnB;kernel_rfl)
def s58(p0:U7):Sp (E9):=.ofFn 58 Z0 Tryz.func58 (show FnD Pg GG [0,1,2,3,4,5,6,8,18,27,36,46,49] Tryz.f58 [.agg [.i p0.fy,.i p0.fp,.i p0.ft,.bool p0.fo,.i p0.fC,.bool p0.fF,.str p0.fO.fe,.i p0.fO.fh]] (.call 1001 (s122 5 0) [] [] fun r219=>.call 1004 (s122 7 p0.fp) [] [] fun r220=>.chk 1005 (decide (r219.size+r220.size≤9223372036854775807)) (.br 0 (p0.fy==1) (.call 9004 (s122 4 p0.ft) [] [] fun r221=>.call 9005 (s123 36 r221 0 1 (r219++r220)) [(ωa,3)] [(11,500036)] fun r222=>.bind 0 (.br 0 p0.fo (.done 32810) (.fail)) (fun(e223:Int)=>Ext.of .normal [(1,.ptr 1 0 0),(2,.ptr 2 0 0),(3,.ptr 3 0 0),(4,.fn 123 [] [.ptr 3 0 0]),(5,.i e223)] [(1,⟨8,true,[[.i p0.fy,.i p0.fp,.i p0.ft,.bool p0.fo,.i p0.fC,.bool p0.fF,.str p0.fO.fe,.i p0.fO.fh]]⟩),(2,⟨4,true,[[.i 0,.i 0,.str ByteArray.empty,.nilsl]]⟩),(3,⟨4,true,[[.i 0,.i 1,.str (r219++r220),Rf 500036 r222]]⟩)] [Bt 500036 Q7 2 r222] (by rfl)) (fun e223=>.call 13003 (s122 1 0) [] [] fun r224=>.call 13006 (s122 7 p0.fC) [] [] fun r225=>.chk 13007 (decide (r224.size+r225.size≤9223372036854775807)) (.call 13008 (s123_1 e223 (r224++r225) 0 1 (r219++r220) r222) [(ωa,3),(ωb,500036)] [(11,500037)] fun r226=>.br 0 p0.fF (.fail) (.gh 0 (.share (VwW.o 500037 Q7 r226) 1) (.done (E9.mk 0 1 (r219++r220) r226)))))) (.fail)):TT (E9)) (fun r=>.agg [.int .i64 r.gl,.int .i64 r.gm,.str r.fp,Sl 2 Q7 r.fW]) by unfold FnD;kernel_rfl)
def s60_3(p0:ByteArray):Sp (E9×Int):=decSpec p0
def g39(p0 p1 p2:Int):TT (Bool):=.cnd 1 [6] (.br 1005 (decide (p1≤p0)) (.done (decide (p0≤p2))) (.done false)) (fun(c234:Bool)=>[.bool c234]) fun c234=>.done c234
def s39(p0 p1 p2:Int):Sp (Bool):=.ofFn 39 Z0 Tryz.func39 (show FnD Pg GG [0,1,2,6] Tryz.f39 [.i p0,.i p1,.i p2] (g39 p0 p1 p2) (fun r=>.bool r) by unfold FnD;kernel_rfl)
def s49(p0:Z7):Sp (Bool):=.ofFn 49 Z0 Tryz.func49 (show FnD Pg GG [0,1,2] Tryz.f49 [.agg [.str p0.fe,.i p0.fh]] (.cnd 1 [2] (.call 1002 (s101 p0) [] [] fun r239=>.br 1005 (r239==0) (.done (decide ((1:Int)≤p0.fh))) (.fail)) (fun(c240:Bool)=>[.bool c240]) fun c240=>.done c240:TT (Bool)) (fun r=>.bool r) by unfold FnD;kernel_rfl)
def s48(p0:U7):Sp (Bool):=.ofFn 48 Z0 Tryz.func48 (show FnD Pg GG [0,1,2,6,8,9,34,50] Tryz.f48 [.agg [.i p0.fy,.i p0.fp,.i p0.ft,.bool p0.fo,.i p0.fC,.bool p0.fF,.str p0.fO.fe,.i p0.fO.fh]] (.call 1003 (s39 p0.fp 0 1099511627776) [] [] fun r235=>.br 0 (!r235) (.fail) (.br 0 (p0.fy==1) (.cnd 5 [2] (.call 5003 (s39 p0.ft 1 2147483647) [] [] fun r236=>.br 5005 r236 (.call 5007 (s39 p0.fC 0 281474976710655) [] [] fun r237=>.br 5010 r237 (.br 5013 p0.fo (.done ((decide (p0.fO.fe=ByteArray.empty))&&((p0.fO.fh==0)&&true))) (.fail)) (.fail)) (.fail)) (fun(c238:Bool)=>[.bool c238]) fun c238=>.done c238) (.br 0 (p0.fy==2) (.cnd 7 [2] (.call 7003 (s49 p0.fO) [] [] fun r239=>.br 7005 r239 (.done ((p0.fy==p0.fy)&&((p0.fp==p0.fp)&&((p0.ft==0)&&((p0.fo==false)&&((p0.fC==0)&&((p0.fF==false)&&((decide (p0.fO.fe=p0.fO.fe))&&((p0.fO.fh==p0.fO.fh)&&true))))))))) (.fail)) (fun(c240:Bool)=>[.bool c240]) fun c240=>.done c240) (.fail))):TT (Bool)) (fun r=>.bool r) by unfold FnD;kernel_rfl)
def g19(p0:U7)(p1:ByteArray):TT (ByteArray×Int):=.call 1002 (s48 p0) [] [] fun r241=>.br 0 (!r241) (.fail) (.call 3002 (s58 p0) [] [] fun r242=>.call 3004 (s57 r242 p1) [] [] fun r243=>.br 0 (r243.2 != 0) (.fail) (.call 6002 (s59 r243.1) [] [] fun r244=>.done (r244.1,r244.2)))
def s19(p0:U7)(p1:ByteArray):Sp (ByteArray×Int):=.ofFn 19 Z0 Tryz.func19 (show FnD Pg GG [0,1,2,4,5,6,7,10,19] Tryz.f19 [.agg [.i p0.fy,.i p0.fp,.i p0.ft,.bool p0.fo,.i p0.fC,.bool p0.fF,.str p0.fO.fe,.i p0.fO.fh],.str p1] (g19 p0 p1) (fun r=>.tup [.str r.1,.i r.2]) by unfold FnD;kernel_rfl)
def g20(p0 p1:ByteArray):TT (U7×Int):=.call 1002 (s60_3 p0) [] [] fun r230=>.bind 0 (.br 0 (r230.2==0) (.call 3003 (s61 r230.1 p1) [] [] fun r231=>.done r231) (.fail)) (fun(e232:Int)=>Ext.l .normal [(0,.str p0),(1,.str p1),(4,.ptr 4 0 0),(5,.i 0),(6,.ptr 6 0 0),(7,.i e232)] [(4,⟨8,true,[[.i 0,.i 0,.i 0,.bool false,.i 0,.bool false,.str ByteArray.empty,.i 0]]⟩),(6,⟨4,true,[[.i r230.1.gl,.i r230.1.gm,.str r230.1.fp,Sl 2 Q7 r230.1.fW]]⟩)]) (fun e232=>.br 0 (e232 != 0) (.done ((U7.mk 0 0 0 false 0 false (Z7.mk ByteArray.empty 0)),e232)) (.call 6002 (s62 r230.1) [] [] fun r233=>.call 7003 (s19 r233 p1) [] [] fun r245=>.cnd 8 [39] (.br 8004 (r245.2 != 0) (.fail) (.done (!decide (r245.1=p0)))) (fun(c246:Bool)=>[.bool c246]) fun c246=>.br 0 c246 (.fail) (.done (r233,0))))
def s20(p0 p1:ByteArray):Sp (U7×Int):=.ofFn 20 Z0 Tryz.func20 (show FnD Pg GG [0,1,4,5,6,7,8,9,10,17,22,39] Tryz.f20 [.str p0,.str p1] (g20 p0 p1) (fun r=>.tup [.agg [.i r.1.fy,.i r.1.fp,.i r.1.ft,.bool r.1.fo,.i r.1.fC,.bool r.1.fF,.str r.1.fO.fe,.i r.1.fO.fh],.i r.2]) by unfold FnD;kernel_rfl)
def g231(p0 p1 p2:Int):TT (Bool):=.cnd 1 [6] (.br 1005 (decide (p1≤p0)) (.done (decide (p0≤p2))) (.done false)) (fun(c249:Bool)=>[.bool c249]) fun c249=>.done c249
def s231(p0 p1 p2:Int):Sp (Bool):=.ofFn 231 Z0 Tryz.func231 (show FnD Pg GG [0,1,2,6] Tryz.f231 [.i p0,.i p1,.i p2] (g231 p0 p1 p2) (fun r=>.bool r) by unfold FnD;kernel_rfl)
def s245 :Sp (Unit):=.ofFnB 245 [] Z0 Tryz.func245 rfl (fun _=>rfl) (show FnB Pg GG [0,2,3,4,5,9,16] Tryz.f245 [.str (bs [48,49,50,51,52,53,54,55,56,57,97,98,99,100,101,102,45])] (Ext.of .normal (U6 [.str (bs [48,49,50,51,52,53,54,55,56,57,97,98,99,100,101,102,45])]) [] [] (by rfl)) (.tt (.ff (.tt (.ff (.tt (.ff (.tt (.ff (.tt (.ff (.tt (.ff (.tt (.ff (.tt (.ff (.tt (.ff (.tt (.ff (.tt (.ff (.tt (.ff (.tt (.ff (.tt (.ff (.tt (.ff (.tt (.ff (.tt (.ff (.ff (.done ()))))))))))))))))))))))))))))))))))):TT (Unit)) (fun(r:Unit)=>.tup [.agg [.bool false,.bool false,.bool false,.bool false,.bool false,.bool false,.bool false,.bool false,.bool false,.bool false,.bool false,.bool false,.bool false,.bool false,.bool false,.bool false,.bool false,.bool false,.bool false,.bool false,.bool false,.bool false,.bool false,.bool false,.bool false,.bool false,.bool false,.bool false,.bool false,.bool false,.bool false,.bool false,.bool false,.bool false,.bool false,.bool false,.bool false,.bool false,.bool false,.bool false,.bool false,.bool false,.bool false,.bool false,.bool false,.bool true,.bool false,.bool false,.bool true,.bool true,.bool true,.bool true,.bool true,.bool true,.bool true,.bool true,.bool true,.bool true,.bool false,.bool false,.bool false,.bool false,.bool false,.bool false,.bool false,.bool false,.bool false,.bool false,.bool false,.bool false,.bool false,.bool false,.bool false,.bool false,.bool false,.bool false,.bool false,.bool false,.bool false,.bool false,.bool false,.bool false,.bool false,.bool false,.bool false,.bool false,.bool false,.bool false,.bool false,.bool false,.bool false,.bool false,.bool false,.bool false,.bool false,.bool false,.bool false,.bool true,.bool true,.bool true,.bool true,.bool true,.bool true,.bool false,.bool false,.bool false,.bool false,.bool false,.bool false,.bool false,.bool false,.bool false,.bool false,.bool false,.bool false,.bool false,.bool false,.bool false,.bool false,.bool false,.bool false,.bool false,.bool false,.bool false,.bool false,.bool false,.bool false,.bool false,.bool false,.bool false,.bool false,.bool false,.bool false,.bool false,.bool false,.bool false,.bool false,.bool false,.bool false,.bool false,.bool false,.bool false,.bool false,.bool false,.bool false,.bool false,.bool false,.bool false,.bool false,.bool false,.bool false,.bool false,.bool false,.bool false,.bool false,.bool false,.bool false,.bool false,.bool false,.bool false,.bool false,.bool false,.bool false,.bool false,.bool false,.bool false,.bool false,.bool false,.bool false,.bool false,.bool false,.bool false,.bool false,.bool false,.bool false,.bool false,.bool false,.bool false,.bool false,.bool false,.bool false,.bool false,.bool false,.bool false,.bool false,.bool false,.bool false,.bool false,.bool false,.bool false,.bool false,.bool false,.bool false,.bool false,.bool false,.bool false,.bool false,.bool false,.bool false,.bool false,.bool false,.bool false,.bool false,.bool false,.bool false,.bool false,.bool false,.bool false,.bool false,.bool false,.bool false,.bool false,.bool false,.bool false,.bool false,.bool false,.bool false,.bool false,.bool false,.bool false,.bool false,.bool false,.bool false,.bool false,.bool false,.bool false,.bool false,.bool false,.bool false,.bool false,.bool false,.bool false,.bool false,.bool false,.bool false,.bool false,.bool false,.bool false,.bool false,.bool false,.bool false,.bool false,.bool false,.bool false,.bool false,.bool false,.bool false,.bool false,.bool false,.bool false,.bool false,.bool false,.bool false,.bool false,.bool false,.bool false],.bool true]) (fun(r:Unit)=>Ext.of .normal [] [] [] (by rfl)) by unfold FnB;kernel_rfl)
def g266(p0:Int):TT (Bool):=.ceq 1004 p0 [0,1,2,3,4,5,6,7,8,9,10,11,12,13,14,15,16,17,18,19,20,21,22,23,24,25,26,27,28,29,30,31,32,33,34,35,36,37,38,39,40,41,42,43,44,45,46,47,48,49,50,51,52,53,54,55,56,57,58,59,60,61,62,63,64,65,66,67,68,69,70,71,72,73,74,75,76,77,78,79,80,81,82,83,84,85,86,87,88,89,90,91,92,93,94,95,96,97,98,99,100,101,102,103,104,105,106,107,108,109,110,111,112,113,114,115,116,117,118,119,120,121,122,123,124,125,126,127,128,129,130,131,132,133,134,135,136,137,138,139,140,141,142,143,144,145,146,147,148,149,150,151,152,153,154,155,156,157,158,159,160,161,162,163,164,165,166,167,168,169,170,171,172,173,174,175,176,177,178,179,180,181,182,183,184,185,186,187,188,189,190,191,192,193,194,195,196,197,198,199,200,201,202,203,204,205,206,207,208,209,210,211,212,213,214,215,216,217,218,219,220,221,222,223,224,225,226,227,228,229,230,231,232,233,234,235,236,237,238,239,240,241,242,243,244,245,246,247,248,249,250,251,252,253,254,255] (fun v=>bif [45,48,49,50,51,52,53,54,55,56,57,97,98,99,100,101,102].contains v then .done true else .done false)
def s266(p0:Int):Sp (Bool):=.ofFn 266 Z0 Tryz.func266 (show FnD Pg GG [0,1,4] Tryz.f266 [.snap [.bool false,.bool false,.bool false,.bool false,.bool false,.bool false,.bool false,.bool false,.bool false,.bool false,.bool false,.bool false,.bool false,.bool false,.bool false,.bool false,.bool false,.bool false,.bool false,.bool false,.bool false,.bool false,.bool false,.bool false,.bool false,.bool false,.bool false,.bool false,.bool false,.bool false,.bool false,.bool false,.bool false,.bool false,.bool false,.bool false,.bool false,.bool false,.bool false,.bool false,.bool false,.bool false,.bool false,.bool false,.bool false,.bool true,.bool false,.bool false,.bool true,.bool true,.bool true,.bool true,.bool true,.bool true,.bool true,.bool true,.bool true,.bool true,.bool false,.bool false,.bool false,.bool false,.bool false,.bool false,.bool false,.bool false,.bool false,.bool false,.bool false,.bool false,.bool false,.bool false,.bool false,.bool false,.bool false,.bool false,.bool false,.bool false,.bool false,.bool false,.bool false,.bool false,.bool false,.bool false,.bool false,.bool false,.bool false,.bool false,.bool false,.bool false,.bool false,.bool false,.bool false,.bool false,.bool false,.bool false,.bool false,.bool true,.bool true,.bool true,.bool true,.bool true,.bool true,.bool false,.bool false,.bool false,.bool false,.bool false,.bool false,.bool false,.bool false,.bool false,.bool false,.bool false,.bool false,.bool false,.bool false,.bool false,.bool false,.bool false,.bool false,.bool false,.bool false,.bool false,.bool false,.bool false,.bool false,.bool false,.bool false,.bool false,.bool false,.bool false,.bool false,.bool false,.bool false,.bool false,.bool false,.bool false,.bool false,.bool false,.bool false,.bool false,.bool false,.bool false,.bool false,.bool false,.bool false,.bool false,.bool false,.bool false,.bool false,.bool false,.bool false,.bool false,.bool false,.bool false,.bool false,.bool false,.bool false,.bool false,.bool false,.bool false,.bool false,.bool false,.bool false,.bool false,.bool false,.bool false,.bool false,.bool false,.bool false,.bool false,.bool false,.bool false,.bool false,.bool false,.bool false,.bool false,.bool false,.bool false,.bool false,.bool false,.bool false,.bool false,.bool false,.bool false,.bool false,.bool false,.bool false,.bool false,.bool false,.bool false,.bool false,.bool false,.bool false,.bool false,.bool false,.bool false,.bool false,.bool false,.bool false,.bool false,.bool false,.bool false,.bool false,.bool false,.bool false,.bool false,.bool false,.bool false,.bool false,.bool false,.bool false,.bool false,.bool false,.bool false,.bool false,.bool false,.bool false,.bool false,.bool false,.bool false,.bool false,.bool false,.bool false,.bool false,.bool false,.bool false,.bool false,.bool false,.bool false,.bool false,.bool false,.bool false,.bool false,.bool false,.bool false,.bool false,.bool false,.bool false,.bool false,.bool false,.bool false,.bool false,.bool false,.bool false,.bool false,.bool false,.bool false,.bool false,.bool false,.bool false,.bool false,.bool false,.bool false,.bool false],.int .u8 p0] (g266 p0) (fun r=>.bool r) by unfold FnD;kernel_rfl)
def g247(p0:ByteArray):TT (ByteArray):=.bind 1 (.lp (fun(l259:ByteArray)=>Ext.l .normal [(0,.str l259),(1,.snap [.bool false,.bool false,.bool false,.bool false,.bool false,.bool false,.bool false,.bool false,.bool false,.bool false,.bool false,.bool false,.bool false,.bool false,.bool false,.bool false,.bool false,.bool false,.bool false,.bool false,.bool false,.bool false,.bool false,.bool false,.bool false,.bool false,.bool false,.bool false,.bool false,.bool false,.bool false,.bool false,.bool false,.bool false,.bool false,.bool false,.bool false,.bool false,.bool false,.bool false,.bool false,.bool false,.bool false,.bool false,.bool false,.bool true,.bool false,.bool false,.bool true,.bool true,.bool true,.bool true,.bool true,.bool true,.bool true,.bool true,.bool true,.bool true,.bool false,.bool false,.bool false,.bool false,.bool false,.bool false,.bool false,.bool false,.bool false,.bool false,.bool false,.bool false,.bool false,.bool false,.bool false,.bool false,.bool false,.bool false,.bool false,.bool false,.bool false,.bool false,.bool false,.bool false,.bool false,.bool false,.bool false,.bool false,.bool false,.bool false,.bool false,.bool false,.bool false,.bool false,.bool false,.bool false,.bool false,.bool false,.bool false,.bool true,.bool true,.bool true,.bool true,.bool true,.bool true,.bool false,.bool false,.bool false,.bool false,.bool false,.bool false,.bool false,.bool false,.bool false,.bool false,.bool false,.bool false,.bool false,.bool false,.bool false,.bool false,.bool false,.bool false,.bool false,.bool false,.bool false,.bool false,.bool false,.bool false,.bool false,.bool false,.bool false,.bool false,.bool false,.bool false,.bool false,.bool false,.bool false,.bool false,.bool false,.bool false,.bool false,.bool false,.bool false,.bool false,.bool false,.bool false,.bool false,.bool false,.bool false,.bool false,.bool false,.bool false,.bool false,.bool false,.bool false,.bool false,.bool false,.bool false,.bool false,.bool false,.bool false,.bool false,.bool false,.bool false,.bool false,.bool false,.bool false,.bool false,.bool false,.bool false,.bool false,.bool false,.bool false,.bool false,.bool false,.bool false,.bool false,.bool false,.bool false,.bool false,.bool false,.bool false,.bool false,.bool false,.bool false,.bool false,.bool false,.bool false,.bool false,.bool false,.bool false,.bool false,.bool false,.bool false,.bool false,.bool false,.bool false,.bool false,.bool false,.bool false,.bool false,.bool false,.bool false,.bool false,.bool false,.bool false,.bool false,.bool false,.bool false,.bool false,.bool false,.bool false,.bool false,.bool false,.bool false,.bool false,.bool false,.bool false,.bool false,.bool false,.bool false,.bool false,.bool false,.bool false,.bool false,.bool false,.bool false,.bool false,.bool false,.bool false,.bool false,.bool false,.bool false,.bool false,.bool false,.bool false,.bool false,.bool false,.bool false,.bool false,.bool false,.bool false,.bool false,.bool false,.bool false,.bool false,.bool false,.bool false,.bool false,.bool false,.bool false,.bool false,.bool false,.bool false,.bool false,.bool false,.bool false]),(4,.str ByteArray.empty)] []) (fun l259=>.br 0 (decide ((0:Int) < (l259.size:Int))) (.chk 2006 (decide (0≤(Q4 ((l259.size:Int) - 1))∧(Q4 ((l259.size:Int) - 1)) < (l259.size:Int))) (.call 2007 (s266 (bAt l259 (Q4 ((l259.size:Int) - 1)))) [] [] fun r260=>.br 0 (!r260) (.done (.inr l259)) (.chk 3005 (decide (0≤(Q4 ((l259.size:Int) - 1)))&&decide ((Q4 ((l259.size:Int) - 1))≤(l259.size:Int))) (.done (.inl (l259.extract 0 ((Q4 ((l259.size:Int) - 1)).toNat))))))) (.done (.inr l259))) p0) (fun(e261:ByteArray)=>Ext.l (.exit 0) [(0,.str e261),(4,.str ByteArray.empty)] []) (fun e261=>.done e261)
def s247(p0:ByteArray):Sp (ByteArray):=.ofFn 247 Z0 Tryz.func247 (show FnD Pg GG [0,1,4,7,15] Tryz.f247 [.str p0,.snap [.bool false,.bool false,.bool false,.bool false,.bool false,.bool false,.bool false,.bool false,.bool false,.bool false,.bool false,.bool false,.bool false,.bool false,.bool false,.bool false,.bool false,.bool false,.bool false,.bool false,.bool false,.bool false,.bool false,.bool false,.bool false,.bool false,.bool false,.bool false,.bool false,.bool false,.bool false,.bool false,.bool false,.bool false,.bool false,.bool false,.bool false,.bool false,.bool false,.bool false,.bool false,.bool false,.bool false,.bool false,.bool false,.bool true,.bool false,.bool false,.bool true,.bool true,.bool true,.bool true,.bool true,.bool true,.bool true,.bool true,.bool true,.bool true,.bool false,.bool false,.bool false,.bool false,.bool false,.bool false,.bool false,.bool false,.bool false,.bool false,.bool false,.bool false,.bool false,.bool false,.bool false,.bool false,.bool false,.bool false,.bool false,.bool false,.bool false,.bool false,.bool false,.bool false,.bool false,.bool false,.bool false,.bool false,.bool false,.bool false,.bool false,.bool false,.bool false,.bool false,.bool false,.bool false,.bool false,.bool false,.bool false,.bool true,.bool true,.bool true,.bool true,.bool true,.bool true,.bool false,.bool false,.bool false,.bool false,.bool false,.bool false,.bool false,.bool false,.bool false,.bool false,.bool false,.bool false,.bool false,.bool false,.bool false,.bool false,.bool false,.bool false,.bool false,.bool false,.bool false,.bool false,.bool false,.bool false,.bool false,.bool false,.bool false,.bool false,.bool false,.bool false,.bool false,.bool false,.bool false,.bool false,.bool false,.bool false,.bool false,.bool false,.bool false,.bool false,.bool false,.bool false,.bool false,.bool false,.bool false,.bool false,.bool false,.bool false,.bool false,.bool false,.bool false,.bool false,.bool false,.bool false,.bool false,.bool false,.bool false,.bool false,.bool false,.bool false,.bool false,.bool false,.bool false,.bool false,.bool false,.bool false,.bool false,.bool false,.bool false,.bool false,.bool false,.bool false,.bool false,.bool false,.bool false,.bool false,.bool false,.bool false,.bool false,.bool false,.bool false,.bool false,.bool false,.bool false,.bool false,.bool false,.bool false,.bool false,.bool false,.bool false,.bool false,.bool false,.bool false,.bool false,.bool false,.bool false,.bool false,.bool false,.bool false,.bool false,.bool false,.bool false,.bool false,.bool false,.bool false,.bool false,.bool false,.bool false,.bool false,.bool false,.bool false,.bool false,.bool false,.bool false,.bool false,.bool false,.bool false,.bool false,.bool false,.bool false,.bool false,.bool false,.bool false,.bool false,.bool false,.bool false,.bool false,.bool false,.bool false,.bool false,.bool false,.bool false,.bool false,.bool false,.bool false,.bool false,.bool false,.bool false,.bool false,.bool false,.bool false,.bool false,.bool false,.bool false,.bool false,.bool false,.bool false,.bool false,.bool false,.bool false,.bool false,.bool false,.bool false]] (g247 p0) (fun r=>.str r) by unfold FnD;kernel_rfl)
def g246(p0:ByteArray):TT (ByteArray):=.bind 1 (.lp (fun(l265:ByteArray)=>Ext.l .normal [(0,.str l265),(1,.snap [.bool false,.bool false,.bool false,.bool false,.bool false,.bool false,.bool false,.bool false,.bool false,.bool false,.bool false,.bool false,.bool false,.bool false,.bool false,.bool false,.bool false,.bool false,.bool false,.bool false,.bool false,.bool false,.bool false,.bool false,.bool false,.bool false,.bool false,.bool false,.bool false,.bool false,.bool false,.bool false,.bool false,.bool false,.bool false,.bool false,.bool false,.bool false,.bool false,.bool false,.bool false,.bool false,.bool false,.bool false,.bool false,.bool true,.bool false,.bool false,.bool true,.bool true,.bool true,.bool true,.bool true,.bool true,.bool true,.bool true,.bool true,.bool true,.bool false,.bool false,.bool false,.bool false,.bool false,.bool false,.bool false,.bool false,.bool false,.bool false,.bool false,.bool false,.bool false,.bool false,.bool false,.bool false,.bool false,.bool false,.bool false,.bool false,.bool false,.bool false,.bool false,.bool false,.bool false,.bool false,.bool false,.bool false,.bool false,.bool false,.bool false,.bool false,.bool false,.bool false,.bool false,.bool false,.bool false,.bool false,.bool false,.bool true,.bool true,.bool true,.bool true,.bool true,.bool true,.bool false,.bool false,.bool false,.bool false,.bool false,.bool false,.bool false,.bool false,.bool false,.bool false,.bool false,.bool false,.bool false,.bool false,.bool false,.bool false,.bool false,.bool false,.bool false,.bool false,.bool false,.bool false,.bool false,.bool false,.bool false,.bool false,.bool false,.bool false,.bool false,.bool false,.bool false,.bool false,.bool false,.bool false,.bool false,.bool false,.bool false,.bool false,.bool false,.bool false,.bool false,.bool false,.bool false,.bool false,.bool false,.bool false,.bool false,.bool false,.bool false,.bool false,.bool false,.bool false,.bool false,.bool false,.bool false,.bool false,.bool false,.bool false,.bool false,.bool false,.bool false,.bool false,.bool false,.bool false,.bool false,.bool false,.bool false,.bool false,.bool false,.bool false,.bool false,.bool false,.bool false,.bool false,.bool false,.bool false,.bool false,.bool false,.bool false,.bool false,.bool false,.bool false,.bool false,.bool false,.bool false,.bool false,.bool false,.bool false,.bool false,.bool false,.bool false,.bool false,.bool false,.bool false,.bool false,.bool false,.bool false,.bool false,.bool false,.bool false,.bool false,.bool false,.bool false,.bool false,.bool false,.bool false,.bool false,.bool false,.bool false,.bool false,.bool false,.bool false,.bool false,.bool false,.bool false,.bool false,.bool false,.bool false,.bool false,.bool false,.bool false,.bool false,.bool false,.bool false,.bool false,.bool false,.bool false,.bool false,.bool false,.bool false,.bool false,.bool false,.bool false,.bool false,.bool false,.bool false,.bool false,.bool false,.bool false,.bool false,.bool false,.bool false,.bool false,.bool false,.bool false,.bool false,.bool false,.bool false,.bool false,.bool false,.bool false,.bool false,.bool false]),(4,.str ByteArray.empty)] []) (fun l265=>.br 0 (decide ((0:Int) < (l265.size:Int))) (.chk 2003 (decide (0≤(0:Int)∧(0:Int) < (l265.size:Int))) (.call 2004 (s266 (bAt l265 0)) [] [] fun r266=>.br 0 (!r266) (.done (.inr l265)) (.chk 3002 (decide (0≤(1:Int))&&decide ((1:Int)≤(l265.size:Int))) (.done (.inl (l265.extract 1 l265.size)))))) (.done (.inr l265))) p0) (fun(e267:ByteArray)=>Ext.l (.exit 0) [(0,.str e267),(4,.str ByteArray.empty)] []) (fun e267=>.done e267)
def s246(p0:ByteArray):Sp (ByteArray):=.ofFn 246 Z0 Tryz.func246 (show FnD Pg GG [0,1,4,7,12] Tryz.f246 [.str p0,.snap [.bool false,.bool false,.bool false,.bool false,.bool false,.bool false,.bool false,.bool false,.bool false,.bool false,.bool false,.bool false,.bool false,.bool false,.bool false,.bool false,.bool false,.bool false,.bool false,.bool false,.bool false,.bool false,.bool false,.bool false,.bool false,.bool false,.bool false,.bool false,.bool false,.bool false,.bool false,.bool false,.bool false,.bool false,.bool false,.bool false,.bool false,.bool false,.bool false,.bool false,.bool false,.bool false,.bool false,.bool false,.bool false,.bool true,.bool false,.bool false,.bool true,.bool true,.bool true,.bool true,.bool true,.bool true,.bool true,.bool true,.bool true,.bool true,.bool false,.bool false,.bool false,.bool false,.bool false,.bool false,.bool false,.bool false,.bool false,.bool false,.bool false,.bool false,.bool false,.bool false,.bool false,.bool false,.bool false,.bool false,.bool false,.bool false,.bool false,.bool false,.bool false,.bool false,.bool false,.bool false,.bool false,.bool false,.bool false,.bool false,.bool false,.bool false,.bool false,.bool false,.bool false,.bool false,.bool false,.bool false,.bool false,.bool true,.bool true,.bool true,.bool true,.bool true,.bool true,.bool false,.bool false,.bool false,.bool false,.bool false,.bool false,.bool false,.bool false,.bool false,.bool false,.bool false,.bool false,.bool false,.bool false,.bool false,.bool false,.bool false,.bool false,.bool false,.bool false,.bool false,.bool false,.bool false,.bool false,.bool false,.bool false,.bool false,.bool false,.bool false,.bool false,.bool false,.bool false,.bool false,.bool false,.bool false,.bool false,.bool false,.bool false,.bool false,.bool false,.bool false,.bool false,.bool false,.bool false,.bool false,.bool false,.bool false,.bool false,.bool false,.bool false,.bool false,.bool false,.bool false,.bool false,.bool false,.bool false,.bool false,.bool false,.bool false,.bool false,.bool false,.bool false,.bool false,.bool false,.bool false,.bool false,.bool false,.bool false,.bool false,.bool false,.bool false,.bool false,.bool false,.bool false,.bool false,.bool false,.bool false,.bool false,.bool false,.bool false,.bool false,.bool false,.bool false,.bool false,.bool false,.bool false,.bool false,.bool false,.bool false,.bool false,.bool false,.bool false,.bool false,.bool false,.bool false,.bool false,.bool false,.bool false,.bool false,.bool false,.bool false,.bool false,.bool false,.bool false,.bool false,.bool false,.bool false,.bool false,.bool false,.bool false,.bool false,.bool false,.bool false,.bool false,.bool false,.bool false,.bool false,.bool false,.bool false,.bool false,.bool false,.bool false,.bool false,.bool false,.bool false,.bool false,.bool false,.bool false,.bool false,.bool false,.bool false,.bool false,.bool false,.bool false,.bool false,.bool false,.bool false,.bool false,.bool false,.bool false,.bool false,.bool false,.bool false,.bool false,.bool false,.bool false,.bool false,.bool false,.bool false,.bool false,.bool false,.bool false,.bool false]] (g246 p0) (fun r=>.str r) by unfold FnD;kernel_rfl)
def g212_1(p0:ByteArray):TT (ByteArray):=.cnd 1 [12] (.br 1004 (decide (p0=ByteArray.empty)) (.done true) (.done false)) (fun(c255:Bool)=>[.bool c255]) fun c255=>.br 0 c255 (.done p0) (.ff (.call 5002 s245 [] [] fun r256=>.tt (.view 7002 (s247 p0) [] fun r262=>.view 7003 (s246 r262) [] fun r268=>.done r268)))
def s212_1(p0:ByteArray):Sp (ByteArray):=.ofFn 212 Z0 Tryz.func212 (show FnD Pg GG [0,1,4,5,6,12,21,34] Tryz.f212 [.str p0,.str (bs [48,49,50,51,52,53,54,55,56,57,97,98,99,100,101,102,45])] (g212_1 p0) (fun r=>.str r) by unfold FnD;kernel_rfl)
def g232(p0:Z7):TT (Bool):=.cnd 1 [2] (.call 1002 (s101 p0) [] [] fun r270=>.br 1005 (r270==0) (.done (decide ((1:Int)≤p0.fh))) (.done false)) (fun(c271:Bool)=>[.bool c271]) fun c271=>.done c271
def s232(p0:Z7):Sp (Bool):=.ofFn 232 Z0 Tryz.func232 (show FnD Pg GG [0,1,2] Tryz.f232 [.agg [.str p0.fe,.i p0.fh]] (g232 p0) (fun r=>.bool r) by unfold FnD;kernel_rfl)
def g220(p0:Q2):TT (Bool):=.cnd 1 [25] (.call 1003 (s231 p0.fy 1 4) [] [] fun r250=>.br 1006 (!r250) (.done true) (.call 1008 (s231 p0.fX 1 256) [] [] fun r251=>.br 1012 (!r251) (.done true) (.call 1014 (s231 p0.ft 1 2147483647) [] [] fun r252=>.br 1018 (!r252) (.done true) (.call 1021 (s231 (p0.fY.size:Int) 1 80) [] [] fun r253=>.done (!r253))))) (fun(c254:Bool)=>[.bool c254]) fun c254=>.br 0 c254 (.done false) (.cnd 3 [52] (.call 3003 (s212_1 p0.fY) [] [] fun r269=>.br 3006 (!decide (r269=ByteArray.empty)) (.done true) (.call 3008 (s232 p0.fG) [] [] fun r272=>.br 3012 (!r272) (.done true) (.call 3014 (s232 p0.fT) [] [] fun r273=>.br 3018 (!r273) (.done true) (.done ((p0.fG.fe.size:Int) != (p0.fT.fe.size:Int)))))) (fun(c274:Bool)=>[.bool c274]) fun c274=>.br 0 c274 (.done false) (.cnd 5 [2] (.br 5007 ((decide (p0.fG.fe=p0.fT.fe))&&((p0.fG.fh==p0.fT.fh)&&true)) (.done true) (.br 5012 (p0.fy==2) (.done true) (.done (p0.fy==3)))) (fun(c275:Bool)=>[.bool c275]) fun c275=>.done c275))
def s220(p0:Q2):Sp (Bool):=.ofFn 220 Z0 Tryz.func220 (show FnD Pg GG [0,1,2,25,52] Tryz.f220 [.agg (Q0.c p0)] (g220 p0) (fun r=>.bool r) by unfold FnD;kernel_rfl)
def g155(p0:Q2):TT (Int):=.call 1002 (s220 p0) [] [] fun r276=>.br 0 (!r276) (.done 90) (.done 0)
def s155(p0:Q2):Sp (Int):=.ofFn 155 Z0 Tryz.func155 (show FnD Pg GG [0,1,2,5] Tryz.f155 [.agg (Q0.c p0)] (g155 p0) (fun r=>.int .i64 r) by unfold FnD;kernel_rfl)
def g154(p0:Q2):TT (Bool):=.call 1002 (s155 p0) [] [] fun r277=>.done (r277 != 0)
def s154(p0:Q2):Sp (Bool):=.ofFn 154 Z0 Tryz.func154 (show FnD Pg GG [0,1,2] Tryz.f154 [.agg (Q0.c p0)] (g154 p0) (fun r=>.bool r) by unfold FnD;kernel_rfl)
def g102(p0:List Q2):TT (Int):=.bind2 1 (.lp (fun(l250:Int)=>Ext.l .normal [(0,Sl 8 Q0 p0),(1,.fn 154 [] []),(4,.i 0),(7,.i (Y9 Q0 p0)),(8,.i l250)] []) (fun l250=>.br 0 (decide (l250 < (Y9 Q0 p0))) (.row 4004 Q0 p0 l250.toNat (decide (0≤l250)) fun x251=>.call 4006 (s154 x251) [] [] fun r252=>.br 0 r252 (.done (.inr (.inl l250))) (.done (.inl (Q4 (l250+1))))) (.done (.inr (.inr ())))) 0) (fun(e253:Int)=>Ext.l .ret [(4,.i e253)] []) (fun(e254:Unit)=>Ext.l (.exit 0) [(4,.i 0)] []) (fun e253=>.done e253) (fun e254=>.done (-1))
def s102(p0:List Q2):Sp (Int):=.ofFn 102 Z0 Tryz.func102 (show FnD Pg GG [0,1,4,5,7,8,9,16] Tryz.f102 [Sl 8 Q0 p0,.fn 154 [] []] (g102 p0) (fun r=>.int .i64 r) by unfold FnD;kernel_rfl)
def g153(p0:List Q2):TT (Bool):=.call 1003 (s102 p0) [] [] fun r255=>.done (decide ((0:Int)≤r255))
def s153(p0:List Q2):Sp (Bool):=.ofFn 153 Z0 Tryz.func153 (show FnD Pg GG [0,1,4] Tryz.f153 [Sl 8 Q0 p0,.fn 154 [] []] (g153 p0) (fun r=>.bool r) by unfold FnD;kernel_rfl)
def g76(p0:List Q2):TT (Bool):=.call 1002 (s153 p0) [] [] fun r256=>.done (!r256)
def s76(p0:List Q2):Sp (Bool):=.ofFn 76 Z0 Tryz.func76 (show FnD Pg GG [0,2] Tryz.f76 [Sl 8 Q0 p0] (g76 p0) (fun r=>.bool r) by unfold FnD;kernel_rfl)
def g157(p0 p1:Q2):TT (Bool):=.cnd 1 [4] (.br 1007 (p0.fX==p1.fX) (.done ((p0.fG.fe.size:Int)==(p1.fG.fe.size:Int))) (.done false)) (fun(c265:Bool)=>[.bool c265]) fun c265=>.done c265
def s157(p0 p1:Q2):Sp (Bool):=.ofFn 157 Z0 Tryz.func157 (show FnD Pg GG [0,1,2,3,4] Tryz.f157 [.agg (Q0.c p0),.agg (Q0.c p1)] (g157 p0 p1) (fun r=>.bool r) by unfold FnD;kernel_rfl)
def g183(p0 p1:Int):TT (Int×Int):=.cnd 1 [14] (.call 1002 (s231 p0 1 2147483647) [] [] fun r270=>.br 1005 (!r270) (.done true) (.call 1006 (s231 p1 1 2147483647) [] [] fun r271=>.done (!r271))) (fun(c272:Bool)=>[.bool c272]) fun c272=>.br 0 c272 (.done (0,2)) (.br 0 (decide (p1 < p0)) (.done ((Q4 ((Q4 ((V9 .i64 (if p1 < p0 then p1 else p0) 32)+(Q4 ((2:Int) * (if p1 > p0 then p1 else p0)))))+1)),0)) (.done ((Q4 ((V9 .i64 (if p1 < p0 then p1 else p0) 32)+(Q4 ((2:Int) * (if p1 > p0 then p1 else p0))))),0)))
def s183(p0 p1:Int):Sp (Int×Int):=.ofFn 183 Z0 Tryz.func183 (show FnD Pg GG [0,1,4,5,6,14,26] Tryz.f183 [.i p0,.i p1] (g183 p0 p1) (fun r=>.tup [.i r.1,.i r.2]) by unfold FnD;kernel_rfl)
def g156(p0:U0)(p1:Q6):TT (Int):=.row 1008 Q0 p0.fc.fu p1.fH.toNat (decide (0≤p1.fH)) fun x267=>.row 1018 Q0 p0.fc.fw p1.fJ.toNat (decide (0≤p1.fJ)) fun x268=>.bind 0 (.br 0 (!p0.fc.fo) (.done (x268.ft,x267.ft)) (.done (x267.ft,x268.ft))) (fun(e269:Int×Int)=>Ext.l .normal [(4,.i 0),(5,.i e269.1),(6,.i e269.2)] []) (fun e269=>.call 4003 (s183 e269.1 e269.2) [] [] fun r273=>.done r273.1)
def s156(p0:U0)(p1:Q6):Sp (Int):=.ofFn 156 Z0 Tryz.func156 (show FnD Pg GG [0,1,3,4,5,6,7,34] Tryz.f156 [.snap [.bool p0.fc.fo,Sl 8 Q0 p0.fc.fu,Sl 8 Q0 p0.fc.fw,Sl 4 Q3 p0.fc.fm],.agg (Q3.c p1)] (g156 p0 p1) (fun r=>.int .i64 r) by unfold FnD;kernel_rfl)
def g82(p0:U0)(p1:Q6):TT (SLike):=.row 1008 Q0 p0.fc.fu p1.fH.toNat (decide (0≤p1.fH)) fun x275=>.row 1017 Q0 p0.fc.fw p1.fJ.toNat (decide (0≤p1.fJ)) fun x276=>.done (SLike.mk x275.fT x276.fG x275.fX)
def s82(p0:U0)(p1:Q6):Sp (SLike):=.ofFn 82 Z0 Tryz.func82 (show FnD Pg GG [0,1,3,4,5,6] Tryz.f82 [.snap [.bool p0.fc.fo,Sl 8 Q0 p0.fc.fu,Sl 8 Q0 p0.fc.fw,Sl 4 Q3 p0.fc.fm],.agg (Q3.c p1)] (g82 p0 p1) (fun r=>.agg [.str r.fL.fe,.i r.fL.fh,.str r.fM.fe,.i r.fM.fh,.i r.gg]) by unfold FnD;kernel_rfl)
def g160(p0:U0):TT (Bool):=.cnd 1 [48] (.br 1009 (decide ((12:Int) < (Y9 Q0 p0.fc.fu))) (.done true) (.br 1018 (decide ((12:Int) < (Y9 Q0 p0.fc.fw))) (.done true) (.br 1027 (decide ((36:Int) < (Y9 Q3 p0.fc.fm))) (.done true) (.call 1032 (s76 p0.fc.fu) [] [] fun r257=>.br 1036 (!r257) (.done true) (.call 1041 (s76 p0.fc.fw) [] [] fun r258=>.done (!r258)))))) (fun(c259:Bool)=>[.bool c259]) fun c259=>.br 0 c259 (.done false) (.opr 3001 (Rule.makeMap 158 49 1114373 (by decide)) fun _=>.bind2 1 (.lp (fun(l270:(List O2)×Int)=>Ext.of .normal [(0,.snap [.bool p0.fc.fo,Sl 8 Q0 p0.fc.fu,Sl 8 Q0 p0.fc.fw,Sl 4 Q3 p0.fc.fm]),(2,.bool false),(3,.mp 49),(54,Sl 4 Q3 p0.fc.fm),(55,.i (Y9 Q3 p0.fc.fm)),(56,.i l270.2)] [] [Bt 49 T0 1114373 l270.1] (by rfl)) (fun l270=>.br 0 (decide (l270.2 < (Y9 Q3 p0.fc.fm))) (.row 6001 Q3 p0.fc.fm l270.2.toNat (decide (0≤l270.2)) fun x271=>.cnd 7 [99] (.br 7005 (decide (x271.fH < 0)) (.done true) (.br 7016 (decide ((Y9 Q0 p0.fc.fu)≤x271.fH)) (.done true) (.br 7021 (decide (x271.fJ < 0)) (.done true) (.br 7032 (decide ((Y9 Q0 p0.fc.fw)≤x271.fJ)) (.done true) (.br 7037 (decide (x271.fD < 0)) (.done true) (.done (decide ((4:Int) < x271.fD)))))))) (fun(c272:Bool)=>[.bool c272]) fun c272=>.br 0 c272 (.done (.inr (.inl ()))) (.cnd 9 [134] (.row 9008 Q0 p0.fc.fu x271.fH.toNat (decide (0≤x271.fH)) fun x273=>.row 9017 Q0 p0.fc.fw x271.fJ.toNat (decide (0≤x271.fJ)) fun x274=>.call 9019 (s157 x273 x274) [] [] fun r275=>.br 9022 (!r275) (.done true) (.call 9026 (s156 p0 x271) [] [] fun r276=>.br 9030 (x271.ft != r276) (.done true) (.call 9033 (s82 p0 x271) [] [] fun r277=>.opr 9034 (Rule.look (mt:=158) (kt:=160) (et:=4) (z:=1114373) (ty:=T0) (p:=(fun x=>((decide (r277.fL.fe=x.fk.fL.fe))&&((r277.fL.fh==x.fk.fL.fh)&&((decide (r277.fM.fe=x.fk.fM.fe))&&((r277.fM.fh==x.fk.fM.fh)&&((r277.gg==x.fk.gg)&&true))))))) (kc:=[.str r277.fL.fe,.int .i64 r277.fL.fh,.str r277.fM.fe,.int .i64 r277.fM.fh,.int .i64 r277.gg]) (.tmp 129) (.tmp 132) 133 49 true l270.1 (.bool false) (.bool (K8 l270.1 (fun x=>((decide (r277.fL.fe=x.fk.fL.fe))&&((r277.fL.fh==x.fk.fL.fh)&&((decide (r277.fM.fe=x.fk.fM.fe))&&((r277.fM.fh==x.fk.fM.fh)&&((r277.gg==x.fk.gg)&&true)))))) (fun x=>x.fv) false)) ⟨by kernel_rfl,by kernel_rfl,by kernel_rfl,fun _=>by kernel_rfl⟩ (by kernel_rfl) (R8 _ _ (fun x:O2=>x.fv) false V.bool)) fun _=>.done (K8 l270.1 (fun x=>((decide (r277.fL.fe=x.fk.fL.fe))&&((r277.fL.fh==x.fk.fL.fh)&&((decide (r277.fM.fe=x.fk.fM.fe))&&((r277.fM.fh==x.fk.fM.fh)&&((r277.gg==x.fk.gg)&&true)))))) (fun x=>x.fv) false)))) (fun(c278:Bool)=>[.bool c278]) fun c278=>.br 0 c278 (.done (.inr (.inl ()))) (.call 11004 (s82 p0 x271) [] [] fun r279=>.opr 11005 (Rule.put (mt:=158) (kt:=160) (et:=4) (z:=1114373) (ty:=T0) (p:=(fun x=>((decide (r279.fL.fe=x.fk.fL.fe))&&((r279.fL.fh==x.fk.fL.fh)&&((decide (r279.fM.fe=x.fk.fM.fe))&&((r279.fM.fh==x.fk.fM.fh)&&((r279.gg==x.fk.gg)&&true))))))) (kc:=[.str r279.fL.fe,.int .i64 r279.fL.fh,.str r279.fM.fe,.int .i64 r279.fM.fh,.int .i64 r279.gg]) (.tmp 135) (.tmp 138) (.const (.bool true)) 49 l270.1 (O2.mk r279 true) [.bool true] ⟨by kernel_rfl,by kernel_rfl,by kernel_rfl,fun _=>by kernel_rfl⟩ (by rfl) (by kernel_rfl) (by kernel_rfl) (by decide) (by decide)) fun _=>.done (.inl ((mput l270.1 (fun x=>((decide (r279.fL.fe=x.fk.fL.fe))&&((r279.fL.fh==x.fk.fL.fh)&&((decide (r279.fM.fe=x.fk.fM.fe))&&((r279.fM.fh==x.fk.fM.fh)&&((r279.gg==x.fk.gg)&&true)))))) (O2.mk r279 true)),(Q4 (l270.2+1))))))) (.done (.inr (.inr ())))) ([],0)) (fun(e280:Unit)=>Ext.l .ret [(2,.bool false)] []) (fun(e281:Unit)=>Ext.l (.exit 0) [(2,.bool false)] []) (fun e280=>.done false) (fun e281=>.done true))
def s160(p0:U0):Sp (Bool):=.ofFn 160 Z0 Tryz.func160 (show FnD Pg GG [0,2,3,5,48,54,55,56,57,99,134] Tryz.f160 [.snap [.bool p0.fc.fo,Sl 8 Q0 p0.fc.fu,Sl 8 Q0 p0.fc.fw,Sl 4 Q3 p0.fc.fm]] (g160 p0) (fun r=>.bool r) by unfold FnD;kernel_rfl)
def g86(p0:Y3):TT (Int):=.view 2002 (s160 (U0.mk p0)) [] fun r282=>.br 0 (!r282) (.done 100) (.done 0)
def s86(p0:Y3):Sp (Int):=.ofFn 86 Z0 Tryz.func86 (show FnD Pg GG [0,1,2,3,9] Tryz.f86 [.agg [.bool p0.fo,Sl 8 Q0 p0.fu,Sl 8 Q0 p0.fw,Sl 4 Q3 p0.fm]] (g86 p0) (fun r=>.int .i64 r) by unfold FnD;kernel_rfl)
end Go.Proofs.YtjpahkpfkohfkaaGreatDoor
