/- Guides and contracts, printed by a program. Guides and contracts, printed by a program. A range G2 a simple iterator, put together by a program: Va ..; no conditions. -/
import Derived.Test.YtjdieimefebnfaaGreatDoorK8
import Derived.Test.YtjdieimefebnfaaGreatDoorK6
import Derived.KernelRfl
import Derived.Shelf.Strings.Repeat
import Derived.Shelf.Strings.OnBuilder
set_option linter.unusedVariables false
set_option linter.unusedSimpArgs false
set_option maxRecDepth 100000
noncomputable section
namespace Go.Proofs.YtjdieimefebnfaaGreatDoor
open Go Go.EV
def Q5:Ty Int:=⟨λx=>[.i x],λx=>[.i x],λ_=>rfl,λ_=>rfl,λ_ _=>rfl,λ_=>rfl⟩
def ZA(o:Operand)(d b:Nat)(f:Nat->Int):Qw Tryz.prog GG Unit:=.EB 191 o d b ⟨1,true,(Y5 f).map Q5.c⟩ (.agg (C0 f)) (show 1 < Y8 by decide) (by kernel_rfl)
def Hj(o v:Operand)(b:Nat)(f g:Nat->Int):Qw Tryz.prog GG Unit:=.Km (ty:=Q5) 191 o v b ⟨1,true,(Y5 f).map Q5.c⟩ (.agg (C0 g)) (Y5 g) (λ_=>rfl) (show 1 < Y8 by decide) rfl rfl rfl (by kernel_rfl) (by kernel_rfl)
def DD(d:Nat):Qw Tryz.prog GG Unit:=.KX (ty:=Q5) 191 d (Y5 λ_=>0) (λ_=>rfl) (by kernel_rfl)
def KO(o i:Operand)(d b:Nat)(f:Nat->Int)(n:Int):Qw Tryz.prog GG Unit:=.ZD (e:=3) 191 o i d b ⟨1,true,(Y5 f).map Q5.c⟩ 0 .i64 n 16 (by kernel_rfl) (by kernel_rfl)
def s71 :Sp (za):=oF [0] Tryz.func71 [] (.Qy 1003 (Qw.ZW (ty:=Z9) (t:=57) (e:=5) (k:=.u8) (.const (.int .i64 31)) (.const (.int .i64 31)) 3 31 1) λ_=>.Qy 1004 (Qw.Zi (ty:=Z9) (s:=57) (t:=9) (e:=5) (.tmp 3) 4 3 (List.replicate 31 (0:Int)) 31 (hn:=(by simp))) λ_=>.Qd 1005 (decide ((bs [9]).size+(strOfNums (List.replicate 31 (0:Int))).size<=9223372036854775807)) (.done ((bs [9])++(strOfNums (List.replicate 31 (0:Int))))):TT (za)) (λr=>.str r)
def Quo(p0:za):TT (za):=.Qy 1002 (Qw.octets (ty:=Z9) (s:=9) (t:=57) (e:=5) (.tmp 4) 5 p0) λ_=>.Qd 2003 (decide (0<=(0:Int))&&decide ((0:Int) < ((Q3 p0).length:Int))) (.row 2004 Z9 (Q3 p0) 0 true λx292=>.Qd 2007 (decide (0<=(0:Int))&&decide ((0:Int) < ((Q3 p0).length:Int))) (.row 2008 Z9 (Q3 p0) 0 true λx293=>.re 2008 (Yo.put 5 1 Z9 (Q3 p0) 0 (Qm ((Qm (Int.tdiv x292 8)) * 8))) (.gh 5 (.len 5 (((Q3 p0).set 0 (Qm ((Qm (Int.tdiv x292 8)) * 8))).length) [(Q3 p0).length] (by simp)) (.Qd 3003 (decide (0<=(31:Int))&&decide ((31:Int) < (((Q3 p0).set 0 (Qm ((Qm (Int.tdiv x292 8)) * 8))).length:Int))) (.row 3004 Z9 ((Q3 p0).set 0 (Qm ((Qm (Int.tdiv x292 8)) * 8))) 31 true λx294=>.Qd 3007 (decide (0<=(31:Int))&&decide ((31:Int) < (((Q3 p0).set 0 (Qm ((Qm (Int.tdiv x292 8)) * 8))).length:Int))) (.row 3008 Z9 ((Q3 p0).set 0 (Qm ((Qm (Int.tdiv x292 8)) * 8))) 31 true λx295=>.re 3008 (Yo.put 5 1 Z9 ((Q3 p0).set 0 (Qm ((Qm (Int.tdiv x292 8)) * 8))) 31 (Qm ((Int.tmod x294 64)+64))) (.gh 6 (.len 5 ((((Q3 p0).set 0 (Qm ((Qm (Int.tdiv x292 8)) * 8))).set 31 (Qm ((Int.tmod x294 64)+64))).length) [((Q3 p0).set 0 (Qm ((Qm (Int.tdiv x292 8)) * 8))).length] (by simp)) (.Qy 4002 (Qw.Zi (ty:=Z9) (s:=57) (t:=9) (e:=5) (.tmp 20) 21 5 (((Q3 p0).set 0 (Qm ((Qm (Int.tdiv x292 8)) * 8))).set 31 (Qm ((Int.tmod x294 64)+64))) ((((Q3 p0).set 0 (Qm ((Qm (Int.tdiv x292 8)) * 8))).set 31 (Qm ((Int.tmod x294 64)+64))).length) (hn:=(by simp))) λ_=>.done (strOfNums (((Q3 p0).set 0 (Qm ((Qm (Int.tdiv x292 8)) * 8))).set 31 (Qm ((Int.tmod x294 64)+64))))))))))))
def pO(p0:za):Sp (za):=oF [0,2,3] Tryz.func126 [.str p0] (Quo p0) (λr=>.str r)
def Qui(p0:za):TT ((Nat->Int)):=.Qy 1 (DD 2) λ_=>.Qy 1001 (DD 3) λ_=>.bind 1 (.lp (λ(l299:(Nat->Int)×Int)=>Ext.of .normal [(0,.str p0),(2,.ptr 2 0 0),(3,.ptr 3 0 0),(4,.i l299.2)] [] [BT.of 2 Q5 1 (Y5 (λ_=>0)) true,BT.of 3 Q5 1 (Y5 l299.1) true] (by rfl)) (λl299=>.br 0 (decide (l299.2 < 16)) (.Qd 5005 (decide (0<=(Q0 ((2:Int) * l299.2))/\(Q0 ((2:Int) * l299.2)) < (p0.size:Int))) (.Qd 5011 (decide (0<=(Q0 ((Q0 ((2:Int) * l299.2))+1))/\(Q0 ((Q0 ((2:Int) * l299.2))+1)) < (p0.size:Int))) (.Qy 5015 (KO (.tmp 3) (.tmp 9) 23 3 l299.1 l299.2) λ_=>.row 5016 Q5 (Y5 l299.1) (0+l299.2.toNat) true λx300=>.re 5016 (Yo.Im 3 Q5 l299.1 (0+l299.2.toNat) (Q0 ((Q0 (QZ p0 (Q0 ((2:Int) * l299.2))))+(Q0 ((256:Int) * (Q0 (QZ p0 (Q0 ((Q0 ((2:Int) * l299.2))+1))))))))) (.done (.inl ((U5 l299.1 (0+l299.2.toNat) (Q0 ((Q0 (QZ p0 (Q0 ((2:Int) * l299.2))))+(Q0 ((256:Int) * (Q0 (QZ p0 (Q0 ((Q0 ((2:Int) * l299.2))+1))))))))),(Q0 (l299.2+1)))))))) (.done (.inr l299.1))) ((λ_=>0),0)) (λ(e301:(Nat->Int))=>Ext.of (.exit 0) [(2,.ptr 2 0 0),(3,.ptr 3 0 0)] [] [BT.of 2 Q5 1 (Y5 (λ_=>0)) true,BT.of 3 Q5 1 (Y5 e301) true] (by rfl)) (λe301=>.Qy 6001 (KO (.tmp 3) (.const (.int .i64 15)) 24 3 e301 15) λ_=>.row 6002 Q5 (Y5 e301) 15 true λx302=>.Qy 6004 (KO (.tmp 3) (.const (.int .i64 15)) 27 3 e301 15) λ_=>.row 6005 Q5 (Y5 e301) 15 true λx303=>.re 6005 (Yo.Im 3 Q5 e301 15 (Int.tmod x302 32768)) (.Qy 7001 (ZA (.tmp 3) 28 3 (U5 e301 15 (Int.tmod x302 32768))) λ_=>.Qy 7002 (Hj (.tmp 2) (.tmp 28) 2 (λ_=>0) (U5 e301 15 (Int.tmod x302 32768))) λ_=>.done (U5 e301 15 (Int.tmod x302 32768))))
def pI(p0:za):Sp ((Nat->Int)):=oF [0,2,3,4,6] Tryz.func127 [.str p0] (Qui p0) (λr=>.agg (C0 r))
def Qua(p0:Int):TT ((Nat->Int)):=.Qy 1 (DD 2) λ_=>.Qy 1004 (DD 3) λ_=>.Qy 1005 (Qw.Km (ty:=Q5) 191 (.tmp 3) (.tmp 6) 3 ⟨1,true,(List.map Q5.c (Y5 (λ_=>0)))⟩ (.agg (H0 [.int .i64 (Int.tmod p0 65536)] (M5 15 (.int .i64 0) []))) (Y5 (U5 (λ_=>0) 0 (Int.tmod p0 65536)))) λ_=>.Qy 2003 (KO (.tmp 3) (.const (.int .i64 1)) 9 3 (U5 (λ_=>0) 0 (Int.tmod p0 65536)) 1) λ_=>.row 2004 Q5 (Y5 (U5 (λ_=>0) 0 (Int.tmod p0 65536))) 1 true λx305=>.re 2004 (Yo.Im 3 Q5 (U5 (λ_=>0) 0 (Int.tmod p0 65536)) 1 (Q0 (Int.tdiv p0 65536))) (.Qy 3001 (ZA (.tmp 3) 10 3 (U5 (U5 (λ_=>0) 0 (Int.tmod p0 65536)) 1 (Q0 (Int.tdiv p0 65536)))) λ_=>.Qy 3002 (Hj (.tmp 2) (.tmp 10) 2 (λ_=>0) (U5 (U5 (λ_=>0) 0 (Int.tmod p0 65536)) 1 (Q0 (Int.tdiv p0 65536)))) λ_=>.done (U5 (U5 (λ_=>0) 0 (Int.tmod p0 65536)) 1 (Q0 (Int.tdiv p0 65536))))
def RO(p0:Int):Sp ((Nat->Int)):=oF [0,2,3] Tryz.func128 [.i p0] (Qua p0) (λr=>.agg (C0 r))
def Qjm(p0:List Int):TT ((Nat->Int)):=.Qy 1 (DD 2) λ_=>.Qy 1001 (DD 3) λ_=>.bind 1 (.lp (λ(l324:(Nat->Int)×Int)=>Ext.of .normal [(0,Sl 1 Q5 p0),(2,.ptr 2 0 0),(3,.ptr 3 0 0),(4,.i l324.2)] [] [BT.of 2 Q5 1 (Y5 (λ_=>0)) true,BT.of 3 Q5 1 (Y5 l324.1) true] (by rfl)) (λl324=>.br 0 (decide (l324.2 < (M9 Q5 p0))) (.br 0 (decide (l324.2 < 16)) (.Qy 6003 (KO (.tmp 3) (.tmp 17) 18 3 l324.1 l324.2) λ_=>.row 6004 Q5 (Y5 l324.1) (0+l324.2.toNat) true λx325=>.row 6007 Q5 p0 l324.2.toNat (decide (0<=l324.2)) λx326=>.Qy 6010 (KO (.tmp 3) (.tmp 16) 25 3 l324.1 l324.2) λ_=>.row 6011 Q5 (Y5 l324.1) (0+l324.2.toNat) true λx327=>.re 6011 (Yo.Im 3 Q5 l324.1 (0+l324.2.toNat) (Q0 (x325+x326))) (.done (.inl ((U5 l324.1 (0+l324.2.toNat) (Q0 (x325+x326))),(Q0 (l324.2+1)))))) (.Qy 7005 (KO (.tmp 3) (.tmp 29) 30 3 l324.1 (Q0 (l324.2 - 16))) λ_=>.row 7006 Q5 (Y5 l324.1) (0+(Q0 (l324.2 - 16)).toNat) true λx328=>.row 7009 Q5 p0 l324.2.toNat (decide (0<=l324.2)) λx329=>.Qy 7013 (KO (.tmp 3) (.tmp 27) 38 3 l324.1 (Q0 (l324.2 - 16))) λ_=>.row 7014 Q5 (Y5 l324.1) (0+(Q0 (l324.2 - 16)).toNat) true λx330=>.re 7014 (Yo.Im 3 Q5 l324.1 (0+(Q0 (l324.2 - 16)).toNat) (Q0 (x328+(Q0 ((38:Int) * x329))))) (.done (.inl ((U5 l324.1 (0+(Q0 (l324.2 - 16)).toNat) (Q0 (x328+(Q0 ((38:Int) * x329))))),(Q0 (l324.2+1))))))) (.done (.inr l324.1))) ((λ_=>0),0)) (λ(e331:(Nat->Int))=>Ext.of (.exit 0) [(2,.ptr 2 0 0),(3,.ptr 3 0 0)] [] [BT.of 2 Q5 1 (Y5 (λ_=>0)) true,BT.of 3 Q5 1 (Y5 e331) true] (by rfl)) (λe331=>.bind 1 (.lp (λ(l342:(Nat->Int)×Int)=>Ext.of .normal [(2,.ptr 2 0 0),(3,.ptr 3 0 0),(5,.i l342.2)] [] [BT.of 2 Q5 1 (Y5 (λ_=>0)) true,BT.of 3 Q5 1 (Y5 l342.1) true] (by rfl)) (λl342=>.br 0 (decide (l342.2 < 3)) (.bind 2 (.lp (λ(l346:(Nat->Int)×Int×Int)=>Ext.of .normal [(2,.ptr 2 0 0),(3,.ptr 3 0 0),(5,.i l342.2),(6,.i l346.2.1),(7,.i l346.2.2)] [] [BT.of 2 Q5 1 (Y5 (λ_=>0)) true,BT.of 3 Q5 1 (Y5 l346.1) true] (by rfl)) (λl346=>.br 0 (decide (l346.2.2 < 16)) (.Qy 15003 (KO (.tmp 3) (.tmp 48) 49 3 l346.1 l346.2.2) λ_=>.row 15004 Q5 (Y5 l346.1) (0+l346.2.2.toNat) true λx347=>.Qy 16004 (KO (.tmp 3) (.tmp 52) 55 3 l346.1 l346.2.2) λ_=>.row 16005 Q5 (Y5 l346.1) (0+l346.2.2.toNat) true λx348=>.re 16005 (Yo.Im 3 Q5 l346.1 (0+l346.2.2.toNat) (Int.tmod (Q0 (l346.2.1+x347)) 65536)) (.done (.inl ((U5 l346.1 (0+l346.2.2.toNat) (Int.tmod (Q0 (l346.2.1+x347)) 65536)),(Q0 (Int.tdiv (Q0 (l346.2.1+x347)) 65536)),(Q0 (l346.2.2+1)))))) (.done (.inr (l346.1,l346.2.1)))) (l342.1,0,0)) (λ(e349:(Nat->Int)×Int)=>Ext.of (.exit 4) [(2,.ptr 2 0 0),(3,.ptr 3 0 0),(5,.i l342.2),(6,.i e349.2)] [] [BT.of 2 Q5 1 (Y5 (λ_=>0)) true,BT.of 3 Q5 1 (Y5 e349.1) true] (by rfl)) (λe349=>.Qy 18001 (KO (.tmp 3) (.const (.int .i64 0)) 58 3 e349.1 0) λ_=>.row 18002 Q5 (Y5 e349.1) 0 true λx350=>.Qy 18006 (KO (.tmp 3) (.const (.int .i64 0)) 63 3 e349.1 0) λ_=>.row 18007 Q5 (Y5 e349.1) 0 true λx351=>.re 18007 (Yo.Im 3 Q5 e349.1 0 (Q0 (x350+(Q0 ((38:Int) * e349.2))))) (.done (.inl ((U5 e349.1 0 (Q0 (x350+(Q0 ((38:Int) * e349.2))))),(Q0 (l342.2+1))))))) (.done (.inr l342.1))) (e331,0)) (λ(e352:(Nat->Int))=>Ext.of (.exit 2) [(2,.ptr 2 0 0),(3,.ptr 3 0 0)] [] [BT.of 2 Q5 1 (Y5 (λ_=>0)) true,BT.of 3 Q5 1 (Y5 e352) true] (by rfl)) (λe352=>.Qy 19001 (ZA (.tmp 3) 64 3 e352) λ_=>.Qy 19002 (Hj (.tmp 2) (.tmp 64) 2 (λ_=>0) e352) λ_=>.done e352))
def Ch(p0:List Int):Sp ((Nat->Int)):=oF [0,2,3,4,5,6,7,11,15,40,44] Tryz.func187 [Sl 1 Q5 p0] (Qjm p0) (λr=>.agg (C0 r))
def Qux(p0 p1:Nat->Int):TT ((Nat->Int)):=.Qy 1 (Qw.EW (ty:=Q5) 191 (.tmp 0) 2 (Y5 p0)) λ_=>.Qy 2 (Qw.EW (ty:=Q5) 191 (.tmp 1) 3 (Y5 p1)) λ_=>.Qy 3 (DD 4) λ_=>.Qy 1001 (Qw.ZW (ty:=Q5) (t:=36) (e:=3) (k:=.i64) (.const (.int .i64 16)) (.const (.int .i64 16)) 7 16 8) λ_=>.bind 1 (.lp (λ(l315:(List Int)×Int)=>Ext.of .normal [(2,.ptr 2 0 0),(3,.ptr 3 0 0),(4,.ptr 4 0 0),(5,.ref 7 0 16),(6,.i l315.2)] [] [BT.of 2 Q5 1 (Y5 p0) true,BT.of 3 Q5 1 (Y5 p1) true,BT.of 4 Q5 1 (Y5 (λ_=>0)) true,Bt 7 Q5 1 l315.1] (by rfl)) (λl315=>.br 0 (decide (l315.2 < 16)) (.Qy 5004 (KO (.tmp 2) (.tmp 14) 15 2 p0 l315.2) λ_=>.row 5005 Q5 (Y5 p0) (0+l315.2.toNat) true λx316=>.Qy 5007 (KO (.tmp 3) (.tmp 17) 18 3 p1 l315.2) λ_=>.row 5008 Q5 (Y5 p1) (0+l315.2.toNat) true λx317=>.Qd 5010 (bD l315.2 16) (.row 5011 Q5 l315.1 (0+l315.2.toNat) true λx318=>.re 5011 (Yo.put 7 1 Q5 l315.1 (0+l315.2.toNat) (Q0 (x316+x317))) (.done (.inl ((l315.1.set (0+l315.2.toNat) (Q0 (x316+x317))),(Q0 (l315.2+1))))))) (.done (.inr l315.1))) ((List.replicate 16 (0:Int)),0)) (λ(e319:(List Int))=>Ext.of (.exit 0) [(4,.ptr 4 0 0),(5,.ref 7 0 16)] [] [BT.of 4 Q5 1 (Y5 (λ_=>0)) true,Bt 7 Q5 1 e319] (by rfl)) (λe319=>.view 6002 (Ch (e319.take 16)) [(QE.part 7 Q5 e319 16)] λr353=>.Qy 6003 (Hj (.tmp 4) (.tmp 23) 4 (λ_=>0) r353) λ_=>.done r353)
def RI(p0 p1:Nat->Int):Sp ((Nat->Int)):=oF [0,1,2,3,4,5,6,9] Tryz.func129 [.agg (C0 p0),.agg (C0 p1)] (Qux p0 p1) (λr=>.agg (C0 r))
def Qud(p0 p1:Nat->Int):TT ((Nat->Int)):=.Qy 1 (Qw.EW (ty:=Q5) 191 (.tmp 0) 2 (Y5 p0)) λ_=>.Qy 2 (Qw.EW (ty:=Q5) 191 (.tmp 1) 3 (Y5 p1)) λ_=>.Qy 3 (DD 4) λ_=>.Qy 1001 (Qw.ZW (ty:=Q5) (t:=36) (e:=3) (k:=.i64) (.const (.int .i64 16)) (.const (.int .i64 16)) 7 16 8) λ_=>.bind 1 (.lp (λ(l359:(List Int)×Int)=>Ext.of .normal [(2,.ptr 2 0 0),(3,.ptr 3 0 0),(4,.ptr 4 0 0),(5,.ref 7 0 16),(6,.i l359.2)] [] [BT.of 2 Q5 1 (Y5 p0) true,BT.of 3 Q5 1 (Y5 p1) true,BT.of 4 Q5 1 (Y5 (λ_=>0)) true,Bt 7 Q5 1 l359.1] (by rfl)) (λl359=>.br 0 (decide (l359.2 < 16)) (.Qy 5004 (KO (.tmp 2) (.tmp 14) 15 2 p0 l359.2) λ_=>.row 5005 Q5 (Y5 p0) (0+l359.2.toNat) true λx360=>.Qy 5007 (KO (.tmp 3) (.tmp 17) 18 3 p1 l359.2) λ_=>.row 5008 Q5 (Y5 p1) (0+l359.2.toNat) true λx361=>.Qd 5011 (bD l359.2 16) (.row 5012 Q5 l359.1 (0+l359.2.toNat) true λx362=>.re 5012 (Yo.put 7 1 Q5 l359.1 (0+l359.2.toNat) (Q0 ((Q0 (x360 - x361))+131070))) (.done (.inl ((l359.1.set (0+l359.2.toNat) (Q0 ((Q0 (x360 - x361))+131070))),(Q0 (l359.2+1))))))) (.done (.inr l359.1))) ((List.replicate 16 (0:Int)),0)) (λ(e363:(List Int))=>Ext.of (.exit 0) [(4,.ptr 4 0 0),(5,.ref 7 0 16)] [] [BT.of 4 Q5 1 (Y5 (λ_=>0)) true,Bt 7 Q5 1 e363] (by rfl)) (λe363=>.row 6004 Q5 e363 0 true λx364=>.row 6007 Q5 e363 0 true λx365=>.re 6007 (Yo.put 7 1 Q5 e363 0 (Q0 (x364 - 74))) (.view 7002 (Ch ((e363.set 0 (Q0 (x364 - 74))).take 16)) [(QE.part 7 Q5 (e363.set 0 (Q0 (x364 - 74))) 16)] λr366=>.Qy 7003 (Hj (.tmp 4) (.tmp 30) 4 (λ_=>0) r366) λ_=>.done r366))
def RA(p0 p1:Nat->Int):Sp ((Nat->Int)):=oF [0,1,2,3,4,5,6,9] Tryz.func130 [.agg (C0 p0),.agg (C0 p1)] (Qud p0 p1) (λr=>.agg (C0 r))
def Que(p0 p1:Nat->Int):TT ((Nat->Int)):=.Qy 1 (Qw.EW (ty:=Q5) 191 (.tmp 0) 2 (Y5 p0)) λ_=>.Qy 2 (Qw.EW (ty:=Q5) 191 (.tmp 1) 3 (Y5 p1)) λ_=>.Qy 3 (DD 4) λ_=>.Qy 1001 (Qw.ZW (ty:=Q5) (t:=36) (e:=3) (k:=.i64) (.const (.int .i64 31)) (.const (.int .i64 31)) 8 31 8) λ_=>.bind 1 (.lp (λ(l380:(List Int)×Int)=>Ext.of .normal [(2,.ptr 2 0 0),(3,.ptr 3 0 0),(4,.ptr 4 0 0),(5,.ref 8 0 31),(6,.i l380.2)] [] [BT.of 2 Q5 1 (Y5 p0) true,BT.of 3 Q5 1 (Y5 p1) true,BT.of 4 Q5 1 (Y5 (λ_=>0)) true,Bt 8 Q5 1 l380.1] (by rfl)) (λl380=>.br 0 (decide (l380.2 < 16)) (.bind 2 (.lp (λ(l386:(List Int)×Int)=>Ext.of .normal [(2,.ptr 2 0 0),(3,.ptr 3 0 0),(4,.ptr 4 0 0),(5,.ref 8 0 31),(6,.i l380.2),(7,.i l386.2)] [] [BT.of 2 Q5 1 (Y5 p0) true,BT.of 3 Q5 1 (Y5 p1) true,BT.of 4 Q5 1 (Y5 (λ_=>0)) true,Bt 8 Q5 1 l386.1] (by rfl)) (λl386=>.br 0 (decide (l386.2 < 16)) (.Qd 8009 (decide (0<=(Q0 (l380.2+l386.2)))&&decide ((Q0 (l380.2+l386.2)) < (31:Int))) (.row 8010 Q5 l386.1 (0+(Q0 (l380.2+l386.2)).toNat) true λx387=>.Qy 8012 (KO (.tmp 2) (.tmp 27) 28 2 p0 l380.2) λ_=>.row 8013 Q5 (Y5 p0) (0+l380.2.toNat) true λx388=>.Qy 8015 (KO (.tmp 3) (.tmp 30) 31 3 p1 l386.2) λ_=>.row 8016 Q5 (Y5 p1) (0+l386.2.toNat) true λx389=>.Qd 8019 (decide (0<=(Q0 (l380.2+l386.2)))&&decide ((Q0 (l380.2+l386.2)) < (31:Int))) (.row 8020 Q5 l386.1 (0+(Q0 (l380.2+l386.2)).toNat) true λx390=>.re 8020 (Yo.put 8 1 Q5 l386.1 (0+(Q0 (l380.2+l386.2)).toNat) (Q0 (x387+(Q0 (x388 * x389))))) (.done (.inl ((l386.1.set (0+(Q0 (l380.2+l386.2)).toNat) (Q0 (x387+(Q0 (x388 * x389))))),(Q0 (l386.2+1)))))))) (.done (.inr l386.1))) (l380.1,0)) (λ(e391:(List Int))=>Ext.of (.exit 2) [(2,.ptr 2 0 0),(3,.ptr 3 0 0),(4,.ptr 4 0 0),(5,.ref 8 0 31),(6,.i l380.2)] [] [BT.of 2 Q5 1 (Y5 p0) true,BT.of 3 Q5 1 (Y5 p1) true,BT.of 4 Q5 1 (Y5 (λ_=>0)) true,Bt 8 Q5 1 e391] (by rfl)) (λe391=>.done (.inl (e391,(Q0 (l380.2+1)))))) (.done (.inr l380.1))) ((List.replicate 31 (0:Int)),0)) (λ(e392:(List Int))=>Ext.of (.exit 0) [(4,.ptr 4 0 0),(5,.ref 8 0 31)] [] [BT.of 4 Q5 1 (Y5 (λ_=>0)) true,Bt 8 Q5 1 e392] (by rfl)) (λe392=>.view 9002 (Ch (e392.take 31)) [(QE.part 8 Q5 e392 31)] λr393=>.Qy 9003 (Hj (.tmp 4) (.tmp 37) 4 (λ_=>0) r393) λ_=>.done r393)
def Kr(p0 p1:Nat->Int):Sp ((Nat->Int)):=oF [0,1,2,3,4,5,6,7,10,14] Tryz.func131 [.agg (C0 p0),.agg (C0 p1)] (Que p0 p1) (λr=>.agg (C0 r))
def Quk(p0:Nat->Int):TT ((Nat->Int)):=.Qy 1 (Qw.EW (ty:=Q5) 191 (.tmp 0) 1 (Y5 p0)) λ_=>.Qy 2 (DD 2) λ_=>.cl 1001 (RO 1) λr356=>.Qy 1002 (DD 3) λ_=>.Qy 1003 (Hj (.tmp 3) (.tmp 5) 3 (λ_=>0) r356) λ_=>.bind 1 (.lp (λ(l360:(Nat->Int)×Int)=>Ext.of .normal [(1,.ptr 1 0 0),(2,.ptr 2 0 0),(3,.ptr 3 0 0),(4,.i l360.2)] [] [BT.of 1 Q5 1 (Y5 p0) true,BT.of 2 Q5 1 (Y5 (λ_=>0)) true,BT.of 3 Q5 1 (Y5 l360.1) true] (by rfl)) (λl360=>.br 0 (decide ((0:Int)<=l360.2)) (.Qy 5001 (ZA (.tmp 3) 10 3 l360.1) λ_=>.Qy 5002 (ZA (.tmp 3) 11 3 l360.1) λ_=>.cl 5003 (Kr l360.1 l360.1) λr361=>.Qy 5004 (Hj (.tmp 3) (.tmp 12) 3 l360.1 r361) λ_=>.QD 6 [18] (.an 6004 (l360.2 != 2) (.done (l360.2 != 4))) zi λc362=>.br 0 c362 (.Qy 7001 (ZA (.tmp 3) 19 3 r361) λ_=>.Qy 7002 (ZA (.tmp 1) 20 1 p0) λ_=>.cl 7003 (Kr r361 p0) λr363=>.Qy 7004 (Hj (.tmp 3) (.tmp 21) 3 r361 r363) λ_=>.done (.inl (r363,(Q0 (l360.2 - 1))))) (.done (.inl (r361,(Q0 (l360.2 - 1)))))) (.done (.inr l360.1))) (r356,254)) (λ(e364:(Nat->Int))=>Ext.of (.exit 0) [(2,.ptr 2 0 0),(3,.ptr 3 0 0)] [] [BT.of 2 Q5 1 (Y5 (λ_=>0)) true,BT.of 3 Q5 1 (Y5 e364) true] (by rfl)) (λe364=>.Qy 8001 (ZA (.tmp 3) 22 3 e364) λ_=>.Qy 8002 (Hj (.tmp 2) (.tmp 22) 2 (λ_=>0) e364) λ_=>.done e364)
def pX(p0:Nat->Int):Sp ((Nat->Int)):=oF [0,1,2,3,4,7,18] Tryz.func133 [.agg (C0 p0)] (Quk p0) (λr=>.agg (C0 r))
def Qjk(p0:Nat->Int):TT (Bool):=.Qy 1 (Qw.EW (ty:=Q5) 191 (.tmp 0) 1 (Y5 p0)) λ_=>.QM 1 (.lp (λ(l371:Int)=>Ext.of .normal [(1,.ptr 1 0 0),(2,.bool false),(3,.i l371)] [] [BT.of 1 Q5 1 (Y5 p0) true] (by rfl)) (λl371=>.br 0 (decide ((1:Int)<=l371)) (.bind 1 (.br 0 (l371==15) (.done 32767) (.done 65535)) (λ(e372:Int)=>Ext.of .normal [(1,.ptr 1 0 0),(2,.bool false),(3,.i l371),(4,.i e372)] [] [BT.of 1 Q5 1 (Y5 p0) true] (by rfl)) (λe372=>.Qy 7002 (KO (.tmp 1) (.tmp 11) 12 1 p0 l371) λ_=>.row 7003 Q5 (Y5 p0) (0+l371.toNat) true λx373=>.br 0 (x373 != e372) (.Qy 8002 (KO (.tmp 1) (.tmp 16) 17 1 p0 l371) λ_=>.row 8003 Q5 (Y5 p0) (0+l371.toNat) true λx374=>.done (.inr (.inl (decide (x374 < e372))))) (.done (.inl (Q0 (l371 - 1)))))) (.done (.inr (.inr ())))) 15) (λ(e375:Bool)=>Ext.of .ret [(1,.ptr 1 0 0),(2,.bool e375)] [] [BT.of 1 Q5 1 (Y5 p0) true] (by rfl)) (λ(e376:Unit)=>Ext.of (.exit 0) [(1,.ptr 1 0 0),(2,.bool false)] [] [BT.of 1 Q5 1 (Y5 p0) true] (by rfl)) (λe375=>.done e375) (λe376=>.Qy 9001 (KO (.tmp 1) (.const (.int .i64 0)) 21 1 p0 0) λ_=>.row 9002 Q5 (Y5 p0) 0 true λx377=>.done (decide (x377 < 65517)))
def rK(p0:Nat->Int):Sp (Bool):=oF [0,1,2,3,4,6,10,15] Tryz.func188 [.agg (C0 p0)] (Qjk p0) (λr=>.bool r)
def Qum(p0:Nat->Int):TT (za):=.Qy 1 (Qw.EW (ty:=Q5) 191 (.tmp 0) 1 (Y5 p0)) λ_=>.bind 1 (.lp (λ(l380:(Nat->Int))=>Ext.of .normal [(1,.ptr 1 0 0),(2,.str zd)] [] [BT.of 1 Q5 1 (Y5 l380) true] (by rfl)) (λl380=>.Qy 1001 (ZA (.tmp 1) 7 1 l380) λ_=>.cl 1002 (rK l380) λr381=>.br 0 (!r381) (.bind 2 (.lp (λ(l385:(Nat->Int)×Int×Int)=>Ext.of .normal [(1,.ptr 1 0 0),(2,.str zd),(3,.i l385.2.1),(4,.i l385.2.2)] [] [BT.of 1 Q5 1 (Y5 l385.1) true] (by rfl)) (λl385=>.br 0 (decide (l385.2.2 < 16)) (.Qy 6003 (KO (.tmp 1) (.tmp 15) 16 1 l385.1 l385.2.2) λ_=>.row 6004 Q5 (Y5 l385.1) (0+l385.2.2.toNat) true λx386=>.Qy 7004 (KO (.tmp 1) (.tmp 19) 22 1 l385.1 l385.2.2) λ_=>.row 7005 Q5 (Y5 l385.1) (0+l385.2.2.toNat) true λx387=>.re 7005 (Yo.Im 1 Q5 l385.1 (0+l385.2.2.toNat) (Int.tmod (Q0 (l385.2.1+x386)) 65536)) (.done (.inl ((U5 l385.1 (0+l385.2.2.toNat) (Int.tmod (Q0 (l385.2.1+x386)) 65536)),(Q0 (Int.tdiv (Q0 (l385.2.1+x386)) 65536)),(Q0 (l385.2.2+1)))))) (.done (.inr (l385.1,l385.2.1)))) (l380,19,0)) (λ(e388:(Nat->Int)×Int)=>Ext.of (.exit 2) [(1,.ptr 1 0 0),(2,.str zd),(3,.i e388.2)] [] [BT.of 1 Q5 1 (Y5 e388.1) true] (by rfl)) (λe388=>.Qy 9001 (KO (.tmp 1) (.const (.int .i64 15)) 25 1 e388.1 15) λ_=>.row 9002 Q5 (Y5 e388.1) 15 true λx389=>.Qy 9004 (KO (.tmp 1) (.const (.int .i64 15)) 28 1 e388.1 15) λ_=>.row 9005 Q5 (Y5 e388.1) 15 true λx390=>.re 9005 (Yo.Im 1 Q5 e388.1 15 (Q0 (x389 - 32768))) (.br 0 (decide ((0:Int) < e388.2)) (.Qy 11001 (KO (.tmp 1) (.const (.int .i64 15)) 31 1 (U5 e388.1 15 (Q0 (x389 - 32768))) 15) λ_=>.row 11002 Q5 (Y5 (U5 e388.1 15 (Q0 (x389 - 32768)))) 15 true λx391=>.Qy 11004 (KO (.tmp 1) (.const (.int .i64 15)) 34 1 (U5 e388.1 15 (Q0 (x389 - 32768))) 15) λ_=>.row 11005 Q5 (Y5 (U5 e388.1 15 (Q0 (x389 - 32768)))) 15 true λx392=>.re 11005 (Yo.Im 1 Q5 (U5 e388.1 15 (Q0 (x389 - 32768))) 15 (Q0 (x391+65536))) (.done (.inl (U5 (U5 e388.1 15 (Q0 (x389 - 32768))) 15 (Q0 (x391+65536)))))) (.done (.inl (U5 e388.1 15 (Q0 (x389 - 32768)))))))) (.done (.inr l380))) p0) (λ(e393:(Nat->Int))=>Ext.of (.exit 0) [(1,.ptr 1 0 0),(2,.str zd)] [] [BT.of 1 Q5 1 (Y5 e393) true] (by rfl)) (λe393=>.gh 1 (.Xk 600010 5 1) (.bind 0 (.lp (λ(l397:(List Int)×Int)=>Ext.of .normal [(1,.ptr 1 0 0),(2,.str zd),(5,Rf 600010 l397.1),(6,.i l397.2)] [] [BT.of 1 Q5 1 (Y5 e393) true,Bt 600010 Z9 1 l397.1] (by rfl)) (λl397=>.br 0 (decide (l397.2 < 16)) (.Qy 16003 (KO (.tmp 1) (.tmp 40) 41 1 e393 l397.2) λ_=>.row 16004 Q5 (Y5 e393) (0+l397.2.toNat) true λx398=>.Qy 16008 (KO (.tmp 1) (.tmp 45) 46 1 e393 l397.2) λ_=>.row 16009 Q5 (Y5 e393) (0+l397.2.toNat) true λx399=>.app 16013 Z9 l397.1 [(Qm (Int.tmod x398 256)),(Qm (Q0 (Int.tdiv x399 256)))] 1 false (by intro h;cases h) (.gh 0 (.drop [600010]) (.gh 0 (.Qc 51 600010) (.done (.inl ((l397.1++[(Qm (Int.tmod x398 256)),(Qm (Q0 (Int.tdiv x399 256)))]),(Q0 (l397.2+1)))))))) (.done (.inr l397.1))) ([],0)) (λ(e400:(List Int))=>Ext.of (.exit 4) [(2,.str zd),(5,Rf 600010 e400)] [] [Bt 600010 Z9 1 e400] (by rfl)) (λe400=>.Qy 17002 (Qw.Zi (ty:=Z9) (s:=57) (t:=9) (e:=5) (.tmp 52) 53 600010 e400 e400.length (hn:=(by simp))) λ_=>.done (strOfNums e400))))
def pA(p0:Nat->Int):Sp (za):=oF [0,1,2,3,4,5,6,9,11,30,36] Tryz.func132 [.agg (C0 p0)] (Qum p0) (λr=>.str r)
def g70(p0 p1:za):TT (za):=.cl 1002 (pO p0) λr296=>.cl 2002 (pI p1) λr304=>.Qy 2003 (DD 6) λ_=>.Qy 2004 (Hj (.tmp 6) (.tmp 23) 6 (λ_=>0) r304) λ_=>.cl 3001 (RO 1) λr306=>.cl 3002 (RO 0) λr307=>.Qy 3003 (ZA (.tmp 6) 26 6 r304) λ_=>.cl 3004 (RO 1) λr308=>.Qy 3005 (DD 7) λ_=>.Qy 3006 (DD 8) λ_=>.Qy 3007 (DD 9) λ_=>.Qy 3008 (DD 10) λ_=>.Qy 3009 (Hj (.tmp 7) (.tmp 24) 7 (λ_=>0) r306) λ_=>.Qy 3010 (Hj (.tmp 8) (.tmp 25) 8 (λ_=>0) r307) λ_=>.Qy 3011 (Hj (.tmp 9) (.tmp 26) 9 (λ_=>0) r304) λ_=>.Qy 3012 (Hj (.tmp 10) (.tmp 27) 10 (λ_=>0) r308) λ_=>.bind 1 (.lp (λ(l332:(Nat->Int)×(Nat->Int)×(Nat->Int)×(Nat->Int)×Int)=>Ext.of .normal [(4,.str zd),(5,.str r296),(6,.ptr 6 0 0),(7,.ptr 7 0 0),(8,.ptr 8 0 0),(9,.ptr 9 0 0),(10,.ptr 10 0 0),(11,.i l332.q)] [] [BT.of 6 Q5 1 (Y5 r304) true,BT.of 7 Q5 1 (Y5 l332.1) true,BT.of 8 Q5 1 (Y5 l332.2.1) true,BT.of 9 Q5 1 (Y5 l332.2.2.1) true,BT.of 10 Q5 1 (Y5 l332.2.2.2.1) true] (by rfl)) (λl332=>.br 0 (decide ((0:Int)<=l332.q)) (.Qd 7004 (decide (0<=(Q0 (Int.tdiv l332.q 8))/\(Q0 (Int.tdiv l332.q 8)) < (r296.size:Int))) (.Qd 7008 (decide ((0:Int)<=(Z1 (Int.tmod l332.q 8)))) (.bind 0 (.br 0 ((U0 .u8 (Z4 .u8 (QZ r296 (Q0 (Int.tdiv l332.q 8))) (Z1 (Int.tmod l332.q 8))) 1)==1) (.Qy 9001 (ZA (.tmp 9) 43 9 l332.2.2.1) λ_=>.Qy 9002 (ZA (.tmp 10) 44 10 l332.2.2.2.1) λ_=>.Qy 9003 (ZA (.tmp 7) 45 7 l332.1) λ_=>.Qy 9004 (ZA (.tmp 8) 46 8 l332.2.1) λ_=>.Qy 9005 (Hj (.tmp 7) (.tmp 43) 7 l332.1 l332.2.2.1) λ_=>.Qy 9006 (Hj (.tmp 8) (.tmp 44) 8 l332.2.1 l332.2.2.2.1) λ_=>.Qy 9007 (Hj (.tmp 9) (.tmp 45) 9 l332.2.2.1 l332.1) λ_=>.Qy 9008 (Hj (.tmp 10) (.tmp 46) 10 l332.2.2.2.1 l332.2.1) λ_=>.done (l332.2.2.1,l332.2.2.2.1,l332.1,l332.2.1)) (.done (l332.1,l332.2.1,l332.2.2.1,l332.2.2.2.1))) (λ(e333:(Nat->Int)×(Nat->Int)×(Nat->Int)×(Nat->Int))=>Ext.of .normal [(4,.str zd),(5,.str r296),(6,.ptr 6 0 0),(7,.ptr 7 0 0),(8,.ptr 8 0 0),(9,.ptr 9 0 0),(10,.ptr 10 0 0),(11,.i l332.q),(12,.bool ((U0 .u8 (Z4 .u8 (QZ r296 (Q0 (Int.tdiv l332.q 8))) (Z1 (Int.tmod l332.q 8))) 1)==1))] [] [BT.of 6 Q5 1 (Y5 r304) true,BT.of 7 Q5 1 (Y5 e333.1) true,BT.of 8 Q5 1 (Y5 e333.2.1) true,BT.of 9 Q5 1 (Y5 e333.2.2.1) true,BT.of 10 Q5 1 (Y5 e333.2.2.2) true] (by rfl)) (λe333=>.Qy 10001 (ZA (.tmp 7) 47 7 e333.1) λ_=>.Qy 10002 (ZA (.tmp 8) 48 8 e333.2.1) λ_=>.cl 10003 (RI e333.1 e333.2.1) λr334=>.Qy 10004 (ZA (.tmp 7) 50 7 e333.1) λ_=>.Qy 10005 (ZA (.tmp 8) 51 8 e333.2.1) λ_=>.cl 10006 (RA e333.1 e333.2.1) λr335=>.Qy 10007 (DD 13) λ_=>.Qy 10008 (DD 14) λ_=>.Qy 10009 (Hj (.tmp 13) (.tmp 49) 13 (λ_=>0) r334) λ_=>.Qy 10010 (Hj (.tmp 14) (.tmp 52) 14 (λ_=>0) r335) λ_=>.Qy 11001 (ZA (.tmp 13) 53 13 r334) λ_=>.Qy 11002 (ZA (.tmp 13) 54 13 r334) λ_=>.cl 11003 (Kr r334 r334) λr336=>.Qy 11004 (ZA (.tmp 14) 56 14 r335) λ_=>.Qy 11005 (ZA (.tmp 14) 57 14 r335) λ_=>.cl 11006 (Kr r335 r335) λr337=>.Qy 11007 (DD 15) λ_=>.Qy 11008 (DD 16) λ_=>.Qy 11009 (Hj (.tmp 15) (.tmp 55) 15 (λ_=>0) r336) λ_=>.Qy 11010 (Hj (.tmp 16) (.tmp 58) 16 (λ_=>0) r337) λ_=>.Qy 12001 (ZA (.tmp 15) 59 15 r336) λ_=>.Qy 12002 (ZA (.tmp 16) 60 16 r337) λ_=>.cl 12003 (RA r336 r337) λr338=>.Qy 12004 (DD 17) λ_=>.Qy 12005 (Hj (.tmp 17) (.tmp 61) 17 (λ_=>0) r338) λ_=>.Qy 13001 (ZA (.tmp 9) 62 9 e333.2.2.1) λ_=>.Qy 13002 (ZA (.tmp 10) 63 10 e333.2.2.2) λ_=>.cl 13003 (RA e333.2.2.1 e333.2.2.2) λr339=>.Qy 13004 (ZA (.tmp 13) 65 13 r334) λ_=>.cl 13005 (Kr r339 r334) λr340=>.Qy 13006 (ZA (.tmp 9) 67 9 e333.2.2.1) λ_=>.Qy 13007 (ZA (.tmp 10) 68 10 e333.2.2.2) λ_=>.cl 13008 (RI e333.2.2.1 e333.2.2.2) λr341=>.Qy 13009 (ZA (.tmp 14) 70 14 r335) λ_=>.cl 13010 (Kr r341 r335) λr342=>.Qy 13011 (DD 18) λ_=>.Qy 13012 (DD 19) λ_=>.Qy 13013 (Hj (.tmp 18) (.tmp 66) 18 (λ_=>0) r340) λ_=>.Qy 13014 (Hj (.tmp 19) (.tmp 71) 19 (λ_=>0) r342) λ_=>.Qy 14001 (ZA (.tmp 15) 72 15 r336) λ_=>.Qy 14002 (ZA (.tmp 16) 73 16 r337) λ_=>.cl 14003 (Kr r336 r337) λr343=>.Qy 14004 (Hj (.tmp 7) (.tmp 74) 7 e333.1 r343) λ_=>.Qy 15001 (ZA (.tmp 17) 75 17 r338) λ_=>.Qy 15002 (ZA (.tmp 15) 76 15 r336) λ_=>.cl 15003 (RO 121665) λr344=>.Qy 15004 (ZA (.tmp 17) 78 17 r338) λ_=>.cl 15005 (Kr r344 r338) λr345=>.cl 15006 (RI r336 r345) λr346=>.cl 15007 (Kr r338 r346) λr347=>.Qy 15008 (Hj (.tmp 8) (.tmp 81) 8 e333.2.1 r347) λ_=>.Qy 16001 (ZA (.tmp 18) 82 18 r340) λ_=>.Qy 16002 (ZA (.tmp 19) 83 19 r342) λ_=>.cl 16003 (RI r340 r342) λr348=>.Qy 16004 (ZA (.tmp 18) 85 18 r340) λ_=>.Qy 16005 (ZA (.tmp 19) 86 19 r342) λ_=>.cl 16006 (RI r340 r342) λr349=>.cl 16007 (Kr r348 r349) λr350=>.Qy 16008 (Hj (.tmp 9) (.tmp 88) 9 e333.2.2.1 r350) λ_=>.Qy 17001 (ZA (.tmp 6) 89 6 r304) λ_=>.Qy 17002 (ZA (.tmp 18) 90 18 r340) λ_=>.Qy 17003 (ZA (.tmp 19) 91 19 r342) λ_=>.cl 17004 (RA r340 r342) λr351=>.Qy 17005 (ZA (.tmp 18) 93 18 r340) λ_=>.Qy 17006 (ZA (.tmp 19) 94 19 r342) λ_=>.cl 17007 (RA r340 r342) λr352=>.cl 17008 (Kr r351 r352) λr353=>.cl 17009 (Kr r304 r353) λr354=>.Qy 17010 (Hj (.tmp 10) (.tmp 97) 10 e333.2.2.2 r354) λ_=>.br 0 ((U0 .u8 (Z4 .u8 (QZ r296 (Q0 (Int.tdiv l332.q 8))) (Z1 (Int.tmod l332.q 8))) 1)==1) (.Qy 19001 (ZA (.tmp 9) 99 9 r350) λ_=>.Qy 19002 (ZA (.tmp 10) 100 10 r354) λ_=>.Qy 19003 (ZA (.tmp 7) 101 7 r343) λ_=>.Qy 19004 (ZA (.tmp 8) 102 8 r347) λ_=>.Qy 19005 (Hj (.tmp 7) (.tmp 99) 7 r343 r350) λ_=>.Qy 19006 (Hj (.tmp 8) (.tmp 100) 8 r347 r354) λ_=>.Qy 19007 (Hj (.tmp 9) (.tmp 101) 9 r350 r343) λ_=>.Qy 19008 (Hj (.tmp 10) (.tmp 102) 10 r354 r347) λ_=>.done (.inl (r350,r354,r343,r347,(Q0 (l332.q - 1))))) (.done (.inl (r343,r347,r350,r354,(Q0 (l332.q - 1))))))))) (.done (.inr (l332.1,l332.2.1)))) (r306,r307,r304,r308,254)) (λ(e355:(Nat->Int)×(Nat->Int))=>Ext.of (.exit 0) [(4,.str zd),(7,.ptr 7 0 0),(8,.ptr 8 0 0)] [] [BT.of 7 Q5 1 (Y5 e355.1) true,BT.of 8 Q5 1 (Y5 e355.2) true] (by rfl)) (λe355=>.Qy 20001 (ZA (.tmp 7) 103 7 e355.1) λ_=>.Qy 20002 (ZA (.tmp 8) 104 8 e355.2) λ_=>.cl 20003 (pX e355.2) λr365=>.cl 20004 (Kr e355.1 r365) λr366=>.cl 20005 (pA r366) λr401=>.done r401)
def mX(p0 p1:za):Sp (za):=oF [0,1,4,5,6,7,8,9,10,11,12,13,14,15,16,17,18,19,29,42,98] Tryz.func70 [.str p0,.str p1] (g70 p0 p1) (λr=>.str r)
structure Z5 where
 fA:za
 fL:za
 fG:Int
 fH:Int
 fO:Int
def Qu4(p0:Int):TT (Bool):=.QD 1 [2] (.br 1004 (decide ((97:Int)<=p0)) (.oR 1008 (decide (p0<=122)) (.br 1011 (decide ((65:Int)<=p0)) (.oR 1016 (decide (p0<=90)) (.br 1019 (decide ((48:Int)<=p0)) (.oR 1024 (decide (p0<=57)) (.oR 1028 (p0==46) (.done (p0==45)))) (.oR 1028 (p0==46) (.done (p0==45))))) (.br 1019 (decide ((48:Int)<=p0)) (.oR 1024 (decide (p0<=57)) (.oR 1028 (p0==46) (.done (p0==45)))) (.oR 1028 (p0==46) (.done (p0==45)))))) (.br 1011 (decide ((65:Int)<=p0)) (.oR 1016 (decide (p0<=90)) (.br 1019 (decide ((48:Int)<=p0)) (.oR 1024 (decide (p0<=57)) (.oR 1028 (p0==46) (.done (p0==45)))) (.oR 1028 (p0==46) (.done (p0==45))))) (.br 1019 (decide ((48:Int)<=p0)) (.oR 1024 (decide (p0<=57)) (.oR 1028 (p0==46) (.done (p0==45)))) (.oR 1028 (p0==46) (.done (p0==45)))))) zi λc402=>.done c402
def dD(p0:Int):Sp (Bool):=oF [0,2] Tryz.func151 [.int .u8 p0] (Qu4 p0) (λr=>.bool r)
def Qyw(p0:za)(p1:Int):TT (Int):=.Qy 1003 (Qw.Qeu 263 (.tmp 5) (.tmp 6) #[9,5] 7 p0 p1 Tryz.func263 (by kernel_rfl) (by kernel_rfl) (by kernel_rfl) (by kernel_rfl)) λ_=>.done (firstIdx p0 (p1).toNat.toUInt8)
def nD(p0:za)(p1:Int):Sp (Int):=oF [0,1,4] Tryz.func254 [.str p0,.int .u8 p1] (Qyw p0 p1) (λr=>.int .i64 r)
def Qj0(p0:za)(p1:Int):TT (Int):=.cl 1003 (nD p0 p1) λr403=>.done r403
def RM(p0:za)(p1:Int):Sp (Int):=oF [0,1,4] Tryz.func220 [.str p0,.int .u8 p1] (Qj0 p0 p1) (λr=>.int .i64 r)
noncomputable def NO:Code:=(cB (cR (cL (cR (cR (Tryz.f91.body.getD .skip))))))
def Tg:Code:=Mk NO
def Ic:List (Nat×V):=[(1,.ptr 1000001 0 0),(2,.ptr 1000002 0 0),(24,.fn 206 [] [.ptr 1700070 0 0])]
def VaL(b:Z5)(s:za):List (Nat×Qi):=[(1000001,⟨5,true,[[.str b.fA,.str b.fL,.int .i64 b.fG,.int .i64 b.fH,.int .i64 b.fO]]⟩),(1000002,⟨1,true,[[.bool false]]⟩),(1700070,⟨1,true,[[.str s]]⟩)]
def DK(ts:List (Nat×V))(b:Z5)(s:za):Ext:=Ext.of .normal ts (VaL b s) [] (by rfl)
def CF(b:Z5)(s:za)(v:Int):TT (Unit):=
 .cl 5002 (dD v) λr404=>
 .br 0 (!r404)
 (.fail)
 (.done ())
theorem Qkc(b:Z5)(s:za)(v:Int):Y1 Tryz.prog GG [1,2,3,28] 60 (A6 NO) (DK [(1,.ptr 1000001 0 0),(2,.ptr 1000002 0 0),(3,.int .u8 v)] b s) (CF b s v) (λ(_:Unit)=>DK [] b s):=by unfold Y1;kernel_rfl
def CL(b:Z5)(s:za)(v:Int):TT (Unit):=
 .cl 5002 (dD v) λr405=>
 .br 0 (!r405)
 (.done ())
 (.fail)
theorem Qkb(b:Z5)(s:za)(v:Int):Y1 Tryz.prog GG [1,2,3,28] 60 (A6 NO) (DK [(1,.ptr 1000001 0 0),(2,.ptr 1000002 0 0),(3,.int .u8 v)] b s) (CL b s v) (λ(_:Unit)=>Ext.of .ret [] (VaL b s) [] (by rfl)):=by unfold Y1;kernel_rfl
noncomputable def NN:Code:=(cB (cR (cL (cR (cR (cR (cR (Tryz.f174.body.getD .skip))))))))
def Tb:Code:=Mk NN
def IQ:List (Nat×V):=[(2,.ptr 1000002 0 0),(5,.ptr 1000005 0 0),(20,.fn 206 [] [.ptr 1700070 0 0])]
def FiL(y:Int)(s:za):List (Nat×Qi):=[(1000002,⟨1,true,[[.bool false]]⟩),(1000005,⟨1,true,[[.int .i64 y]]⟩),(1700070,⟨1,true,[[.str s]]⟩)]
def DM(ts:List (Nat×V))(y:Int)(s:za):Ext:=Ext.of .normal ts (FiL y s) [] (by rfl)
def CR(y:Int)(s:za)(v:Int):TT (Int):=
 .QD 7 [38]
 (.br 7005 ((Int.tmod y 3)==2)
  (.br 7009 (v != 58)
   (.done true)
   (.br 7013 (decide ((Int.tmod y 3) < 2))
    (.cl 7014 (RM (bs [48,49,50,51,52,53,54,55,56,57,65,66,67,68,69,70]) v) λr406=>
     .done (decide (r406 < 0)))
    (.done false)))
  (.br 7013 (decide ((Int.tmod y 3) < 2))
   (.cl 7014 (RM (bs [48,49,50,51,52,53,54,55,56,57,65,66,67,68,69,70]) v) λr407=>
    .done (decide (r407 < 0)))
   (.done false)))
 zi λc408=>
 .br 0 c408
 (.fail)
 (.done (Q0 (y+1)))
theorem Qmm(y:Int)(s:za)(v:Int):Y1 Tryz.prog GG [2,5,6,38] 41 (A6 NN) (DM [(2,.ptr 1000002 0 0),(5,.ptr 1000005 0 0),(6,.int .u8 v)] y s) (CR y s v) (λ(r:Int)=>DM [] r s):=by unfold Y1;kernel_rfl
def CN(y:Int)(s:za)(v:Int):TT (Unit):=
 .QD 7 [38]
 (.br 7005 ((Int.tmod y 3)==2)
  (.br 7009 (v != 58)
   (.done true)
   (.br 7013 (decide ((Int.tmod y 3) < 2))
    (.cl 7014 (RM (bs [48,49,50,51,52,53,54,55,56,57,65,66,67,68,69,70]) v) λr409=>
     .done (decide (r409 < 0)))
    (.done false)))
  (.br 7013 (decide ((Int.tmod y 3) < 2))
   (.cl 7014 (RM (bs [48,49,50,51,52,53,54,55,56,57,65,66,67,68,69,70]) v) λr410=>
    .done (decide (r410 < 0)))
   (.done false)))
 zi λc411=>
 .br 0 c411
 (.done ())
 (.fail)
theorem Qmk(y:Int)(s:za)(v:Int):Y1 Tryz.prog GG [2,5,6,38] 41 (A6 NN) (DM [(2,.ptr 1000002 0 0),(5,.ptr 1000005 0 0),(6,.int .u8 v)] y s) (CN y s v) (λ(_:Unit)=>Ext.of .ret [] (FiL y s) [] (by rfl)):=by unfold Y1;kernel_rfl
def Rq(b:Z5)(s:za):List (Nat×Qi):=(DK [] b s).bs
theorem Qzt(b:Z5)(s:za)(v:Int):Y1 Tryz.prog GG [1,2,3,24,25] 60 Tg (DK ((25,.int .u8 v) :: Ic) b s) (.done ():TT Unit) (λ_=>DK [(1,.ptr 1000001 0 0),(2,.ptr 1000002 0 0),(3,.int .u8 v)] b s):=by unfold Y1;kernel_rfl
theorem Qhw(b:Z5)(s:za)(v:Int):(DK ((25,.int .u8 v) :: Ic) b s |>.D 60).st=WH (M8 60 (Zm Ic) (Qe (Rq b s))) ([25].zip [.int .u8 v]):=by
 rw[H6 (by rfl)]
 exact(JY 60 Ic _ 25 (.int .u8 v)).symm
theorem Qki(b:Z5)(s:za)(v:Int){r:Unit}(hb:(CF b s v).run=some r) :
  Jr Tryz.prog GG 60 (Zm Ic) [25] Tg (A6 NO) (Qe (Rq b s)) [.int .u8 v] (λe b'=>e=.normal/\b'=Qe (Rq b s)):=by
 refine⟨((DK [(1,.ptr 1000001 0 0),(2,.ptr 1000002 0 0),(3,.int .u8 v)] b s).D 60).st,?_,?_⟩
 ·have h:=(Qzt b s v).tv Q8 (r:=()) rfl (by rfl)
  rw[Qhw] at h
  exact h
 ·refine((Qkc b s v).tv Q8 hb (by rfl)).mono λe s' hg=>?_
  obtain⟨rfl,g⟩:=hg
  refine⟨_,60,⟨rfl,rfl⟩,?_⟩
  rw[H6 (by rfl)] at g
  exact g
theorem Qka(b:Z5)(s:za)(v:Int)(hb:(CL b s v).run=some ()) :
  Jr Tryz.prog GG 60 (Zm Ic) [25] Tg (A6 NO) (Qe (Rq b s)) [.int .u8 v] (λe b'=>e=.ret/\b'=Qe (Rq b s)):=by
 refine⟨((DK [(1,.ptr 1000001 0 0),(2,.ptr 1000002 0 0),(3,.int .u8 v)] b s).D 60).st,?_,?_⟩
 ·have h:=(Qzt b s v).tv Q8 (r:=()) rfl (by rfl)
  rw[Qhw] at h
  exact h
 ·refine((Qkb b s v).tv Q8 hb (by rfl)).mono λe s' hg=>?_
  obtain⟨rfl,g⟩:=hg
  refine⟨_,60,⟨rfl,rfl⟩,?_⟩
  rw[H6 (by rfl)] at g
  exact g
section
variable (b:Z5) (l:Nat) (s:za) (i:Int)
def NV:List (Nat×V):=[(0,.QP l),(1,.ptr 1700070 0 0),(3,.int .i64 i)]
def vV:Ext:=DK (NV l i) b s
def VaD(r:Option Int):Ext:=match r with
 | some c=>DK (NV l i++[(8,.bool true),(9,.QP l),(12,.int .u8 c)]) b s
 | none=>DK (NV l i++[(8,.bool false)]) b s
theorem Qm0:Y1 Tryz.prog GG [0,1,3] 17 (cL PB) (DK [(0,.QP l),(1,.ptr 1700070 0 0)] b s) (.done ():TT Unit) (λ_=>vV b l s 0):=by unfold Y1;kernel_rfl
theorem Qkv:W5 Tryz.prog GG [0,1,3,8,9,12] 17 1 oY 9 (vV b l s i) (CP s i) (VaD b l s i):=by unfold W5;kernel_rfl
theorem Qkt:Y1 Tryz.prog GG [0,1,3] 17 aR1 (vV b l s i) (.done ():TT Unit) (λ_=>vV b l s (Q0 (i+1))):=by unfold Y1;kernel_rfl
end
def Mq(b:Z5)(s:za)(x:Unit×Int):Option ((Unit×Int)⊕(Unit⊕Unit)):=
 match (CP s x.2).run with
 | none=>none
 | some none=>some (.inr (.inl x.1))
 | some (some c)=>match (CF b s c).run with
  | some y=>some (.inl (y,Q0 (x.2+1)))
  | none=>match (CL b s c).run with
   | some _=>some (.inr (.inr ()))
   | none=>none
def mVa(b:Z5)(s:za):Option (Unit⊕Unit):=X7 (Mq b s) ZN ((),0)
def yVa:YL:=⟨60,Zm Ic,#[25],Tg,A6 NO⟩
def oVa(b:Z5)(s:za):(Unit⊕Unit)->Exit->(zg)->Prop
 | .inl r,e,bw=>e=.normal/\bw=Qe (Rq b s)
 | .inr _,e,bw=>e=.ret/\bw=Qe (Rq b s)
theorem cK(b:Z5)(s:za){r:Unit⊕Unit}(h:mVa b s=some r) :
    Uj Tryz.prog GG PB 17 (λl=>[.QP l,.ptr 1700070 0 0]) (Qe (Rq b s)) yVa (oVa b s r):=by
  refine Uj.of λl=>?_
  have e0:U3 17 [.QP l,.ptr 1700070 0 0] (Qe (Rq b s))=((DK (H3 [.QP l,.ptr 1700070 0 0]) b s).D 17).st:=(R8 (x:=DK (H3 [.QP l,.ptr 1700070 0 0]) b s) (by rfl) (by rfl) 17).symm
  rw[e0,eAl]
  show YT _ _ _ _ _ ⟨.normal,((DK [(0,.QP l),(1,.ptr 1700070 0 0)] b s).D 17).st⟩ _
  refine YT.seq (YT.piece (Qm0 b l s) Q8 rfl (by rfl) λq g=>?_)
  show YT _ _ _ _ _ _ _
  refine YT.DB g (YT.block ?_)
  refine YT.loop (λm st=>st.x=.normal/\∃z:Unit×Int,QH GG st.st ((vV b l s z.2).D 17).st/\X7 (Mq b s) m z=some r) (λm st hI=>?_) (n:=ZN) ⟨rfl,((),0),QH.same _,h⟩
  obtain⟨x,st⟩:=st
  obtain⟨rfl,⟨v,i⟩,g,hit⟩:=hI
  refine YT.DB g ?_
  cases m with
  | zero=>simp[X7] at hit
  | succ m=>
    rw[T0] at hit
    rw[eAL]
    cases h4:(CP s i).run with
    | none => have hs0 : Mq b s (v, i) = none := by unfold Mq; simp only [h4]
              rw[hs0] at hit;simp at hit
    | some c=>
    refine YT.seq (YT.seq (YT.region ?_))
    show J2 _ _ _ _ _ ([0,1,2,3,4,5,6,7,8]++[9,10]) _ _
    refine J2.tv ((Qkv b l s i).tv Q8 h4 (by cases c<;>rfl)) λe st hq'=>⟨by rw[hq'.1];cases c<;>rfl,J2.DB hq'.2 ?_⟩
    cases c with
    | none=>
      have hs0:Mq b s (v,i)=some (.inr (.inl v)):=by unfold Mq;simp only[h4]
      rw[hs0] at hit
      obtain rfl:_=r:=zW hit
      show J2 _ _ _ _ _ _ ⟨.normal,((DK (NV l i++[(8,.bool false)]) b s).D 17).st⟩ _
      refine J2.step rfl (J2.step rfl (J2.nil ?_))
      show YT _ _ _ _ _ _ _
      refine YT.cond (b:=false) rfl (YT.exit ?_)
      refine⟨.inl rfl,17,Zm (NV l i++[(8,V.bool false),(14,V.bool false)]),Qe (Rq b s),?_,rfl,rfl⟩
      rw[show M8 17 (Zm (NV l i++[(8,V.bool false),(14,V.bool false)])) (Qe (Rq b s))=((DK (NV l i++[(8,V.bool false),(14,V.bool false)]) b s).D 17).st from(H6 (x:=DK (NV l i++[(8,V.bool false),(14,V.bool false)]) b s) (by rfl) 17).symm]
      exact W0 (DK (NV l i++[(8,V.bool false),(14,V.bool false)]) b s) (by rfl) rfl ⟨by rfl,by rfl⟩
    | some c=>
      show J2 _ _ _ _ _ _ ⟨.normal,((DK (NV l i++[(8,.bool true),(9,.QP l),(12,.int .u8 c)]) b s).D 17).st⟩ _
      have es:=H6 (x:=DK (NV l i++[(8,V.bool true),(9,V.QP l),(12,V.int .u8 c)]) b s) (by rfl) 17
      rw[es]
      cases h5:(CF b s c).run with
      | some v2=>
        have hs0:Mq b s (v,i)=some (.inl (v2,Q0 (i+1))):=by unfold Mq;simp only[h4,h5]
        rw[hs0] at hit
        refine J2.Ku (hi:=rfl) rfl rfl rfl rfl rfl rfl rfl (λi=>O8 (by rfl) i) (λi=>O8 (by rfl) i) (λp hp=>?_) rfl (Qki b s c h5) (λe b' h=>.inl h.1) λe b' h=>?_
        · have:p∈[25]:=hp
          simp at this
          subst this
          exact(by decide:25 < 60)
        obtain⟨rfl,rfl⟩:=h
        refine J2.step rfl (J2.nil ?_)
        show YT _ _ _ _ _ _ _
        refine YT.cond (b:=true) rfl (YT.skip ?_)
        show YT _ _ _ _ _ _ _
        refine YT.seq (YT.block (YT.skip ?_))
        show YT _ _ _ _ _ _ _
        refine YT.DB (st':=((vV b l s i).D 17).st) (W0 (vV b l s i) (by rfl) rfl ⟨by rfl,by rfl⟩) ?_
        refine YT.piece (Qkt b l s i) Q8 rfl (by rfl) λq g=>?_
        exact⟨m,Nat.lt_succ_self m,rfl,(v2,Q0 (i+1)),g,hit⟩
      | none=>
      cases h6:(CL b s c).run with
      | none => have hs0 : Mq b s (v, i) = none := by unfold Mq; simp only [h4, h5, h6]
                rw[hs0] at hit;simp at hit
      | some u=>
        have hs0:Mq b s (v,i)=some (.inr (.inr ())):=by unfold Mq;simp only[h4,h5,h6]
        rw[hs0] at hit
        obtain rfl:_=r:=zW hit
        refine J2.Ku (hi:=rfl) rfl rfl rfl rfl rfl rfl rfl (λi=>O8 (by rfl) i) (λi=>O8 (by rfl) i) (λp hp=>?_) rfl (Qka b s c h6) (λe b' h=>.inr (.inl h.1)) λe b' h=>?_
        · have:p∈[25]:=hp
          simp at this
          subst this
          exact(by decide:25 < 60)
        obtain⟨rfl,rfl⟩:=h
        refine J2.step rfl (J2.nil ?_)
        show YT _ _ _ _ _ _ _
        refine YT.cond (b:=false) rfl (YT.exit ?_)
        refine⟨.inl rfl,17,Zm (NV l i++[(8,V.bool true),(9,V.QP l),(12,V.int .u8 c),(13,V.bool false),(14,V.bool false)]),Qe (Rq b s),?_,rfl,rfl⟩
        rw[show M8 17 (Zm (NV l i++[(8,V.bool true),(9,V.QP l),(12,V.int .u8 c),(13,V.bool false),(14,V.bool false)])) (Qe (Rq b s))=((DK (NV l i++[(8,V.bool true),(9,V.QP l),(12,V.int .u8 c),(13,V.bool false),(14,V.bool false)]) b s).D 17).st from(H6 (x:=DK (NV l i++[(8,V.bool true),(9,V.QP l),(12,V.int .u8 c),(13,V.bool false),(14,V.bool false)]) b s) (by rfl) 17).symm]
        exact W0 (DK (NV l i++[(8,V.bool true),(9,V.QP l),(12,V.int .u8 c),(13,V.bool false),(14,V.bool false)]) b s) (by rfl) rfl ⟨by rfl,by rfl⟩
def It(b:Z5)(s:za):Ext:=Ext.of .normal [(1,.ptr 1 0 0),(2,.ptr 2 0 0),(24,.fn 206 [] [.ptr 700070 0 0])] [(1,⟨5,true,[[.str b.fA,.str b.fL,.i b.fG,.i b.fH,.i b.fO]]⟩),(2,⟨1,true,[[.bool false]]⟩),(700070,⟨1,true,[[.str s]]⟩)] [] (by rfl)
def VaE(b:Z5):(Unit⊕Unit)->Ext
 | .inl _=>Ext.of .normal [(1,.ptr 1 0 0),(2,.ptr 2 0 0)] [(1,⟨5,true,[[.str b.fA,.str b.fL,.i b.fG,.i b.fH,.i b.fO]]⟩),(2,⟨1,true,[[.bool false]]⟩)] [] (by rfl)
 | .inr _=>Ext.of .ret [(2,.ptr 2 0 0)] [(2,⟨1,true,[[.bool false]]⟩)] [] (by rfl)
theorem bVa(b:Z5)(s:za):Zz (Qe (It b s).bs)=Qe (Rq b s):=by
 rw[Ue]
 have:((It b s).bs.map λp=>(sh p.1,p.2.Qc sh))=Rq b s:=by kernel_rfl
 rw[this]
theorem bV(b:Z5)(s:za){r:Unit⊕Unit}(h:mVa b s=some r) :
  TV Tryz.prog GG (.rangeFunc (.tmp 24) #[25] Tg (A6 NO)) ((It b s).D 60).st (λe st=>e=(VaE b r).ex/\QH GG st ((VaE b r).D 60).st):=by
 have ht:(λi=>H8 sh (((It b s).D 60).st.t i))=Zm Ic:=by
  have:((It b s).D 60).st.t=Zm (It b s).ts:=rfl
  rw[this,C4]
  have:((It b s).ts.map λp=>(p.1,H8 sh p.2))=Ic:=by kernel_rfl
  rw[this]
 have hb:Tryz.f206.body=some PB:=by kernel_rfl
 refine TV.XD (f:=206) (fi:=Tryz.f206) (c:=PB) (first:=[]) (caps:=[.ptr 1700070 0 0]) (R:=λe bw=>oVa b s r e bw) ?_ Tryz.func206 hb (by kernel_rfl) (by kernel_rfl) ?_ (λi=>?_) ?_ ?_
 ·show some ((λi=>H8 sh (((It b s).D 60).st.t i)) 24)=_
  rw[ht];rfl
 ·intro bq k hk
  obtain⟨q,h1,rfl,_⟩:=ZL (show Qe (It b s).bs bq=some k from hk)
  show ((((It b s).us).contains q.1 || Qk q.1))=true
  simp only[Ext.us,zU,zZ,zC]
  exact .inl (zH.2 ⟨q,h1,rfl⟩)
 ·have:=congrFun ht i
  rw[show H8 sh (((It b s).D 60).st.t i)=Zm Ic i from this]
  exact O8 (by rfl) i
 ·have hbb:Zz ((It b s).D 60).st.b=Qe (Rq b s):=bVa b s
  rw[ht,hbb]
  have e:max Tryz.f206.ntmps (([]:List V).length+1+[V.ptr 1700070 0 0].length)=17:=by kernel_rfl
  rw[e]
  exact cK b s h
 ·intro e b' ho
  rcases r with r|r
  ·obtain⟨rfl,rfl⟩:=ho
   exact⟨.inl rfl,Qe (It b s).bs,(bVa b s).symm,V3 (ts:=(It b s).ts) (bs:=(It b s).bs) (us:=(It b s).us) (by rfl) (by rfl),rfl,W0 (VaE b (.inl r)) (by rfl) rfl ⟨by rfl,by rfl⟩⟩
  ·obtain⟨rfl,rfl⟩:=ho
   exact⟨.inr (.inl rfl),Qe (It b s).bs,(bVa b s).symm,V3 (ts:=(It b s).ts) (bs:=(It b s).bs) (us:=(It b s).us) (by rfl) (by rfl),rfl,W0 (VaE b (.inr ())) (by rfl) rfl ⟨by rfl,by rfl⟩⟩
def Qqa(b:Z5)(s:za):Sub Tryz.prog GG (Unit⊕Unit):=
 ⟨.rangeFunc (.tmp 24) #[25] Tg (A6 NO),60,It b s,mVa b s,VaE b ,λ_ h=>bV b s h⟩
def Ry(y:Int)(s:za):List (Nat×Qi):=(DM [] y s).bs
theorem Qy1(y:Int)(s:za)(v:Int):Y1 Tryz.prog GG [2,5,6,20,21] 41 Tb (DM ((21,.int .u8 v) :: IQ) y s) (.done ():TT Unit) (λ_=>DM [(2,.ptr 1000002 0 0),(5,.ptr 1000005 0 0),(6,.int .u8 v)] y s):=by unfold Y1;kernel_rfl
theorem Qhk(y:Int)(s:za)(v:Int):(DM ((21,.int .u8 v) :: IQ) y s |>.D 41).st=WH (M8 41 (Zm IQ) (Qe (Ry y s))) ([21].zip [.int .u8 v]):=by
 rw[H6 (by rfl)]
 exact(JY 41 IQ _ 21 (.int .u8 v)).symm
theorem Qkg(y:Int)(s:za)(v:Int){r:Int}(hb:(CR y s v).run=some r) :
  Jr Tryz.prog GG 41 (Zm IQ) [21] Tb (A6 NN) (Qe (Ry y s)) [.int .u8 v] (λe b'=>e=.normal/\b'=Qe (Ry r s)):=by
 refine⟨((DM [(2,.ptr 1000002 0 0),(5,.ptr 1000005 0 0),(6,.int .u8 v)] y s).D 41).st,?_,?_⟩
 ·have h:=(Qy1 y s v).tv Q8 (r:=()) rfl (by rfl)
  rw[Qhk] at h
  exact h
 ·refine((Qmm y s v).tv Q8 hb (by rfl)).mono λe s' hg=>?_
  obtain⟨rfl,g⟩:=hg
  refine⟨_,41,⟨rfl,rfl⟩,?_⟩
  rw[H6 (by rfl)] at g
  exact g
theorem Qkf(y:Int)(s:za)(v:Int)(hb:(CN y s v).run=some ()) :
  Jr Tryz.prog GG 41 (Zm IQ) [21] Tb (A6 NN) (Qe (Ry y s)) [.int .u8 v] (λe b'=>e=.ret/\b'=Qe (Ry y s)):=by
 refine⟨((DM [(2,.ptr 1000002 0 0),(5,.ptr 1000005 0 0),(6,.int .u8 v)] y s).D 41).st,?_,?_⟩
 ·have h:=(Qy1 y s v).tv Q8 (r:=()) rfl (by rfl)
  rw[Qhk] at h
  exact h
 ·refine((Qmk y s v).tv Q8 hb (by rfl)).mono λe s' hg=>?_
  obtain⟨rfl,g⟩:=hg
  refine⟨_,41,⟨rfl,rfl⟩,?_⟩
  rw[H6 (by rfl)] at g
  exact g
section
variable (l:Nat) (y:Int) (s:za) (i:Int)
def Fit:List (Nat×V):=[(0,.QP l),(1,.ptr 1700070 0 0),(3,.int .i64 i)]
def FiC:Ext:=DM (Fit l i) y s
def FiD(r:Option Int):Ext:=match r with
 | some c=>DM (Fit l i++[(8,.bool true),(9,.QP l),(12,.int .u8 c)]) y s
 | none=>DM (Fit l i++[(8,.bool false)]) y s
theorem Qmx:Y1 Tryz.prog GG [0,1,3] 17 (cL PB) (DM [(0,.QP l),(1,.ptr 1700070 0 0)] y s) (.done ():TT Unit) (λ_=>FiC l y s 0):=by unfold Y1;kernel_rfl
theorem Qmd:W5 Tryz.prog GG [0,1,3,8,9,12] 17 1 oY 9 (FiC l y s i) (CP s i) (FiD l y s i):=by unfold W5;kernel_rfl
theorem Qme:Y1 Tryz.prog GG [0,1,3] 17 aR1 (FiC l y s i) (.done ():TT Unit) (λ_=>FiC l y s (Q0 (i+1))):=by unfold Y1;kernel_rfl
end
def Mz(s:za)(x:Int×Int):Option ((Int×Int)⊕(Int⊕Unit)):=
 match (CP s x.2).run with
 | none=>none
 | some none=>some (.inr (.inl x.1))
 | some (some c)=>match (CR x.1 s c).run with
  | some y=>some (.inl (y,Q0 (x.2+1)))
  | none=>match (CN x.1 s c).run with
   | some _=>some (.inr (.inr ()))
   | none=>none
def mFi(y:Int)(s:za):Option (Int⊕Unit):=X7 (Mz s) ZN (y,0)
def yFi:YL:=⟨41,Zm IQ,#[21],Tb,A6 NN⟩
def oFi(s:za):(Int⊕Unit)->Exit->(zg)->Prop
 | .inl r,e,bw=>e=.normal/\bw=Qe (Ry r s)
 | .inr _,e,bw=>e=.ret/\∃r,bw=Qe (Ry r s)
theorem cD(y:Int)(s:za){r:Int⊕Unit}(h:mFi y s=some r) :
    Uj Tryz.prog GG PB 17 (λl=>[.QP l,.ptr 1700070 0 0]) (Qe (Ry y s)) yFi (oFi s r):=by
  refine Uj.of λl=>?_
  have e0:U3 17 [.QP l,.ptr 1700070 0 0] (Qe (Ry y s))=((DM (H3 [.QP l,.ptr 1700070 0 0]) y s).D 17).st:=(R8 (x:=DM (H3 [.QP l,.ptr 1700070 0 0]) y s) (by rfl) (by rfl) 17).symm
  rw[e0,eAl]
  show YT _ _ _ _ _ ⟨.normal,((DM [(0,.QP l),(1,.ptr 1700070 0 0)] y s).D 17).st⟩ _
  refine YT.seq (YT.piece (Qmx l y s) Q8 rfl (by rfl) λq g=>?_)
  show YT _ _ _ _ _ _ _
  refine YT.DB g (YT.block ?_)
  refine YT.loop (λm st=>st.x=.normal/\∃z:Int×Int,QH GG st.st ((FiC l z.1 s z.2).D 17).st/\X7 (Mz s) m z=some r) (λm st hI=>?_) (n:=ZN) ⟨rfl,(y,0),QH.same _,h⟩
  obtain⟨x,st⟩:=st
  obtain⟨rfl,⟨v,i⟩,g,hit⟩:=hI
  refine YT.DB g ?_
  cases m with
  | zero=>simp[X7] at hit
  | succ m=>
    rw[T0] at hit
    rw[eAL]
    cases h4:(CP s i).run with
    | none => have hs0 : Mz s (v, i) = none := by unfold Mz; simp only [h4]
              rw[hs0] at hit;simp at hit
    | some c=>
    refine YT.seq (YT.seq (YT.region ?_))
    show J2 _ _ _ _ _ ([0,1,2,3,4,5,6,7,8]++[9,10]) _ _
    refine J2.tv ((Qmd l v s i).tv Q8 h4 (by cases c<;>rfl)) λe st hq'=>⟨by rw[hq'.1];cases c<;>rfl,J2.DB hq'.2 ?_⟩
    cases c with
    | none=>
      have hs0:Mz s (v,i)=some (.inr (.inl v)):=by unfold Mz;simp only[h4]
      rw[hs0] at hit
      obtain rfl:_=r:=zW hit
      show J2 _ _ _ _ _ _ ⟨.normal,((DM (Fit l i++[(8,.bool false)]) v s).D 17).st⟩ _
      refine J2.step rfl (J2.step rfl (J2.nil ?_))
      show YT _ _ _ _ _ _ _
      refine YT.cond (b:=false) rfl (YT.exit ?_)
      refine⟨.inl rfl,17,Zm (Fit l i++[(8,V.bool false),(14,V.bool false)]),Qe (Ry v s),?_,rfl,rfl⟩
      rw[show M8 17 (Zm (Fit l i++[(8,V.bool false),(14,V.bool false)])) (Qe (Ry v s))=((DM (Fit l i++[(8,V.bool false),(14,V.bool false)]) v s).D 17).st from(H6 (x:=DM (Fit l i++[(8,V.bool false),(14,V.bool false)]) v s) (by rfl) 17).symm]
      exact W0 (DM (Fit l i++[(8,V.bool false),(14,V.bool false)]) v s) (by rfl) rfl ⟨by rfl,by rfl⟩
    | some c=>
      show J2 _ _ _ _ _ _ ⟨.normal,((DM (Fit l i++[(8,.bool true),(9,.QP l),(12,.int .u8 c)]) v s).D 17).st⟩ _
      have es:=H6 (x:=DM (Fit l i++[(8,V.bool true),(9,V.QP l),(12,V.int .u8 c)]) v s) (by rfl) 17
      rw[es]
      cases h5:(CR v s c).run with
      | some v2=>
        have hs0:Mz s (v,i)=some (.inl (v2,Q0 (i+1))):=by unfold Mz;simp only[h4,h5]
        rw[hs0] at hit
        refine J2.Ku (hi:=rfl) rfl rfl rfl rfl rfl rfl rfl (λi=>O8 (by rfl) i) (λi=>O8 (by rfl) i) (λp hp=>?_) rfl (Qkg v s c h5) (λe b' h=>.inl h.1) λe b' h=>?_
        · have:p∈[21]:=hp
          simp at this
          subst this
          exact(by decide:21 < 41)
        obtain⟨rfl,rfl⟩:=h
        refine J2.step rfl (J2.nil ?_)
        show YT _ _ _ _ _ _ _
        refine YT.cond (b:=true) rfl (YT.skip ?_)
        show YT _ _ _ _ _ _ _
        refine YT.seq (YT.block (YT.skip ?_))
        show YT _ _ _ _ _ _ _
        refine YT.DB (st':=((FiC l v2 s i).D 17).st) (W0 (FiC l v2 s i) (by rfl) rfl ⟨by rfl,by rfl⟩) ?_
        refine YT.piece (Qme l v2 s i) Q8 rfl (by rfl) λq g=>?_
        exact⟨m,Nat.lt_succ_self m,rfl,(v2,Q0 (i+1)),g,hit⟩
      | none=>
      cases h6:(CN v s c).run with
      | none => have hs0 : Mz s (v, i) = none := by unfold Mz; simp only [h4, h5, h6]
                rw[hs0] at hit;simp at hit
      | some u=>
        have hs0:Mz s (v,i)=some (.inr (.inr ())):=by unfold Mz;simp only[h4,h5,h6]
        rw[hs0] at hit
        obtain rfl:_=r:=zW hit
        refine J2.Ku (hi:=rfl) rfl rfl rfl rfl rfl rfl rfl (λi=>O8 (by rfl) i) (λi=>O8 (by rfl) i) (λp hp=>?_) rfl (Qkf v s c h6) (λe b' h=>.inr (.inl h.1)) λe b' h=>?_
        · have:p∈[21]:=hp
          simp at this
          subst this
          exact(by decide:21 < 41)
        obtain⟨rfl,rfl⟩:=h
        refine J2.step rfl (J2.nil ?_)
        show YT _ _ _ _ _ _ _
        refine YT.cond (b:=false) rfl (YT.exit ?_)
        refine⟨.inl rfl,17,Zm (Fit l i++[(8,V.bool true),(9,V.QP l),(12,V.int .u8 c),(13,V.bool false),(14,V.bool false)]),Qe (Ry v s),?_,rfl,v,rfl⟩
        rw[show M8 17 (Zm (Fit l i++[(8,V.bool true),(9,V.QP l),(12,V.int .u8 c),(13,V.bool false),(14,V.bool false)])) (Qe (Ry v s))=((DM (Fit l i++[(8,V.bool true),(9,V.QP l),(12,V.int .u8 c),(13,V.bool false),(14,V.bool false)]) v s).D 17).st from(H6 (x:=DM (Fit l i++[(8,V.bool true),(9,V.QP l),(12,V.int .u8 c),(13,V.bool false),(14,V.bool false)]) v s) (by rfl) 17).symm]
        exact W0 (DM (Fit l i++[(8,V.bool true),(9,V.QP l),(12,V.int .u8 c),(13,V.bool false),(14,V.bool false)]) v s) (by rfl) rfl ⟨by rfl,by rfl⟩
def IZ(y:Int)(s:za):Ext:=Ext.of .normal [(2,.ptr 2 0 0),(5,.ptr 5 0 0),(20,.fn 206 [] [.ptr 700070 0 0])] [(2,⟨1,true,[[.bool false]]⟩),(5,⟨1,true,[[.i y]]⟩),(700070,⟨1,true,[[.str s]]⟩)] [] (by rfl)
def FiE:(Int⊕Unit)->Ext
 | .inl r=>Ext.of .normal [(2,.ptr 2 0 0),(5,.ptr 5 0 0)] [(2,⟨1,true,[[.bool false]]⟩),(5,⟨1,true,[[.i r]]⟩)] [] (by rfl)
 | .inr _=>Ext.of .ret [(2,.ptr 2 0 0)] [(2,⟨1,true,[[.bool false]]⟩)] [] (by rfl)
theorem bFi(y:Int)(s:za):Zz (Qe (IZ y s).bs)=Qe (Ry y s):=by
 rw[Ue]
 have:((IZ y s).bs.map λp=>(sh p.1,p.2.Qc sh))=Ry y s:=by kernel_rfl
 rw[this]
theorem cY(y:Int)(s:za){r:Int⊕Unit}(h:mFi y s=some r) :
  TV Tryz.prog GG (.rangeFunc (.tmp 20) #[21] Tb (A6 NN)) ((IZ y s).D 41).st (λe st=>e=(FiE r).ex/\QH GG st ((FiE r).D 41).st):=by
 have ht:(λi=>H8 sh (((IZ y s).D 41).st.t i))=Zm IQ:=by
  have:((IZ y s).D 41).st.t=Zm (IZ y s).ts:=rfl
  rw[this,C4]
  have:((IZ y s).ts.map λp=>(p.1,H8 sh p.2))=IQ:=by kernel_rfl
  rw[this]
 have hb:Tryz.f206.body=some PB:=by kernel_rfl
 refine TV.XD (f:=206) (fi:=Tryz.f206) (c:=PB) (first:=[]) (caps:=[.ptr 1700070 0 0]) (R:=λe bw=>oFi s r e bw) ?_ Tryz.func206 hb (by kernel_rfl) (by kernel_rfl) ?_ (λi=>?_) ?_ ?_
 ·show some ((λi=>H8 sh (((IZ y s).D 41).st.t i)) 20)=_
  rw[ht];rfl
 ·intro bq k hk
  obtain⟨q,h1,rfl,_⟩:=ZL (show Qe (IZ y s).bs bq=some k from hk)
  show ((((IZ y s).us).contains q.1 || Qk q.1))=true
  simp only[Ext.us,zU,zZ,zC]
  exact .inl (zH.2 ⟨q,h1,rfl⟩)
 ·have:=congrFun ht i
  rw[show H8 sh (((IZ y s).D 41).st.t i)=Zm IQ i from this]
  exact O8 (by rfl) i
 ·have hbb:Zz ((IZ y s).D 41).st.b=Qe (Ry y s):=bFi y s
  rw[ht,hbb]
  have e:max Tryz.f206.ntmps (([]:List V).length+1+[V.ptr 1700070 0 0].length)=17:=by kernel_rfl
  rw[e]
  exact cD y s h
 ·intro e b' ho
  rcases r with r|r
  ·obtain⟨rfl,rfl⟩:=ho
   exact⟨.inl rfl,Qe (IZ r s).bs,(bFi r s).symm,V3 (ts:=(IZ y s).ts) (bs:=(IZ r s).bs) (us:=(IZ y s).us) (by rfl) (by rfl),rfl,W0 (FiE (.inl r)) (by rfl) rfl ⟨by rfl,by rfl⟩⟩
  ·obtain⟨rfl,r,rfl⟩:=ho
   exact⟨.inr (.inl rfl),Qe (IZ r s).bs,(bFi r s).symm,V3 (ts:=(IZ y s).ts) (bs:=(IZ r s).bs) (us:=(IZ y s).us) (by rfl) (by rfl),rfl,W0 (FiE (.inr ())) (by rfl) rfl ⟨by rfl,by rfl⟩⟩
def Ve(y:Int)(s:za):Sub Tryz.prog GG (Int⊕Unit):=
 ⟨.rangeFunc (.tmp 20) #[21] Tb (A6 NN),41,IZ y s,mFi y s,FiE ,λ_ h=>cY y s h⟩
def Qk7 :Sp (Unit):=.ZR 201 [] Q8 Tryz.func201 rfl (λ_=>rfl) (show WE Pg GG [0,2,3,4,5,9,16] Tryz.f201 [.str (bs [46,45])] (Ext.of .normal (H3 [.str (bs [46,45])]) [] [] (by rfl)) (.tt (.ff (.tt (.ff (.ff (.done ()))))):TT (Unit)) (λ(r:Unit)=>.Qt [.agg (M5 45 (.bool false) (H0 [.bool true,.bool true] (M5 209 (.bool false) []))),.bool true]) (λ(r:Unit)=>Ext.of .normal [] [] [] (by rfl)) by unfold WE;kernel_rfl)
def Qyd(p0:Int):TT (Bool):=.Yi 1004 p0 [0,1,2,3,4,5,6,7,8,9,10,11,12,13,14,15,16,17,18,19,20,21,22,23,24,25,26,27,28,29,30,31,32,33,34,35,36,37,38,39,40,41,42,43,44,45,46,47,48,49,50,51,52,53,54,55,56,57,58,59,60,61,62,63,64,65,66,67,68,69,70,71,72,73,74,75,76,77,78,79,80,81,82,83,84,85,86,87,88,89,90,91,92,93,94,95,96,97,98,99,100,101,102,103,104,105,106,107,108,109,110,111,112,113,114,115,116,117,118,119,120,121,122,123,124,125,126,127,128,129,130,131,132,133,134,135,136,137,138,139,140,141,142,143,144,145,146,147,148,149,150,151,152,153,154,155,156,157,158,159,160,161,162,163,164,165,166,167,168,169,170,171,172,173,174,175,176,177,178,179,180,181,182,183,184,185,186,187,188,189,190,191,192,193,194,195,196,197,198,199,200,201,202,203,204,205,206,207,208,209,210,211,212,213,214,215,216,217,218,219,220,221,222,223,224,225,226,227,228,229,230,231,232,233,234,235,236,237,238,239,240,241,242,243,244,245,246,247,248,249,250,251,252,253,254,255] (λv=>bif [45,46].contains v then .done true else .done false)
def eS(p0:Int):Sp (Bool):=oF [0,1,4] Tryz.func243 [.snap (M5 45 (.bool false) (H0 [.bool true,.bool true] (M5 209 (.bool false) []))),.int .u8 p0] (Qyd p0) (λr=>.bool r)
def Qj8(p0:za):TT (za):=.bind 1 (.lp (λ(l416:za)=>Ext.l .normal [(0,.str l416),(1,.snap (M5 45 (.bool false) (H0 [.bool true,.bool true] (M5 209 (.bool false) [])))),(4,.str zd)] []) (λl416=>.br 0 (decide ((0:Int) < (l416.size:Int))) (.Qd 2006 (decide (0<=(Q0 ((l416.size:Int) - 1))/\(Q0 ((l416.size:Int) - 1)) < (l416.size:Int))) (.cl 2007 (eS (QZ l416 (Q0 ((l416.size:Int) - 1)))) λr417=>.br 0 (!r417) (.done (.inr l416)) (.Qd 3005 (decide (0<=(Q0 ((l416.size:Int) - 1)))&&decide ((Q0 ((l416.size:Int) - 1))<=(l416.size:Int))) (.done (.inl (l416.extract 0 ((Q0 ((l416.size:Int) - 1)).toNat))))))) (.done (.inr l416))) p0) (λ(e418:za)=>Ext.l (.exit 0) [(0,.str e418),(4,.str zd)] []) (λe418=>.done e418)
def rY(p0:za):Sp (za):=oF [0,1,4,7,15] Tryz.func203 [.str p0,.snap (M5 45 (.bool false) (H0 [.bool true,.bool true] (M5 209 (.bool false) [])))] (Qj8 p0) (λr=>.str r)
def Qj9(p0:za):TT (za):=.bind 1 (.lp (λ(l422:za)=>Ext.l .normal [(0,.str l422),(1,.snap (M5 45 (.bool false) (H0 [.bool true,.bool true] (M5 209 (.bool false) [])))),(4,.str zd)] []) (λl422=>.br 0 (decide ((0:Int) < (l422.size:Int))) (.Qd 2003 (decide (0<=(0:Int)/\(0:Int) < (l422.size:Int))) (.cl 2004 (eS (QZ l422 0)) λr423=>.br 0 (!r423) (.done (.inr l422)) (.Qd 3002 (decide (0<=(1:Int))&&decide ((1:Int)<=(l422.size:Int))) (.done (.inl (l422.extract 1 l422.size)))))) (.done (.inr l422))) p0) (λ(e424:za)=>Ext.l (.exit 0) [(0,.str e424),(4,.str zd)] []) (λe424=>.done e424)
def rJ(p0:za):Sp (za):=oF [0,1,4,7,12] Tryz.func202 [.str p0,.snap (M5 45 (.bool false) (H0 [.bool true,.bool true] (M5 209 (.bool false) [])))] (Qj9 p0) (λr=>.str r)
def Qu5(p0:za):TT (za):=.QD 1 [12] (.an 1004 (decide (p0=zd)) (.done true)) zi λc412=>.br 0 c412 (.done p0) (.ff (.cl 5002 Qk7 λr413=>.tt (.view 7002 (rY p0) [] λr419=>.view 7003 (rJ r419) [] λr425=>.done r425)))
def pZ(p0:za):Sp (za):=oF [0,1,4,5,6,12,21,34] Tryz.func149 [.str p0,.str (bs [46,45])] (Qu5 p0) (λr=>.str r)
def pQ(p0:za):Sp (Unit):=.ZR 150 [] Q8 Tryz.func150 rfl (λ_=>rfl) (show WE Pg GG [0,1,2] Tryz.f150 [.str p0] (Ext.of .normal (H3 [.str p0]) [] [] (by rfl)) (.done ():TT (Unit)) (λ(r:Unit)=>.fn 206 [] [.ptr 1 0 0]) (λ(r:Unit)=>Ext.of .normal [] [(1,⟨1,true,[[.str p0]]⟩)] [] (by rfl)) by unfold WE;kernel_rfl)
def lO(p0:Z5):TT (Bool):=.QD 1 [21] (.oR 1006 (decide ((p0.fA.size:Int) < 1)) (.oR 1012 (decide ((32:Int) < (p0.fA.size:Int))) (.cl 1014 (pZ p0.fA) λr426=>.done (!decide (r426=p0.fA))))) zi λc427=>.br 0 c427 (.done false) (.call 3003 (pQ p0.fA) [] [(1,500011)] λr428=>.gh 1 (.Qc 500011 700070) (.Ez (Qqa p0 p0.fA) (λr429=>.an 7006 ((p0.fL.size:Int)==32) (.an 7011 (decide ((0:Int)<=p0.fG)) (.an 7018 (decide (p0.fG<=p0.fH)) (.an 7023 (decide (p0.fH<=1099511627776)) (.an 7028 (decide ((0:Int)<=p0.fO)) (.done (decide (p0.fO<=281474976710655)))))))) λr430=>.done false))
def IE(p0:Z5):Sp (Bool):=oF [0,1,2,3,21,24,25,28] Tryz.func91 [.agg [.str p0.fA,.str p0.fL,.i p0.fG,.i p0.fH,.i p0.fO]] (lO p0) (λr=>.bool r)
def g99(p0 p1:za):TT (Bool):=.QD 1 [4] (.an 1007 (decide ((p1.size:Int)<=(p0.size:Int))) (.Qd 1010 (decide (0<=(p1.size:Int))&&decide ((p1.size:Int)<=(p0.size:Int))) (.done (decide ((p0.extract 0 ((p1.size:Int).toNat))=p1))))) zi λc431=>.done c431
def s99(p0 p1:za):Sp (Bool):=oF [0,1,4] Tryz.func99 [.str p0,.str p1] (g99 p0 p1) (λr=>.bool r)
def Qyk(p0 p1:za):TT (za×Bool):=.cl 1003 (s99 p0 p1) λr432=>.br 0 (!r432) (.done (p0,false)) (.Qd 3004 (decide (0<=(p1.size:Int))&&decide ((p1.size:Int)<=(p0.size:Int))) (.done ((p0.extract ((p1.size:Int).toNat) p0.size),true)))
def nX(p0 p1:za):Sp (za×Bool):=oF [0,1,4,5,9] Tryz.func253 [.str p0,.str p1] (Qyk p0 p1) (λr=>.Qt [.str r.1,.bool r.2])
def Qj1(p0 p1:za):TT (za×Bool):=.cl 1003 (nX p0 p1) λr433=>.done (r433.1,r433.2)
def nS(p0 p1:za):Sp (za×Bool):=oF [0,1,4,5] Tryz.func219 [.str p0,.str p1] (Qj1 p0 p1) (λr=>.Qt [.str r.1,.bool r.2])
def jG(p0:za):TT (Bool):=.cl 1002 (nS p0 (bs [115,104,97,45,50,53,54,32])) λr434=>.QD 2 [18] (.oR 2004 (!r434.2) (.done ((r434.1.size:Int) != 95))) zi λc435=>.br 0 c435 (.done false) (.call 5002 (pQ r434.1) [] [(1,500012)] λr436=>.gh 1 (.Qc 500012 700070) (.Ez (Ve 0 r434.1) (λr437=>.done true) λr438=>.done false))
def Lz(p0:za):Sp (Bool):=oF [0,2,3,4,5,6,18,20,21,38] Tryz.func174 [.str p0] (jG p0) (λr=>.bool r)
end Go.Proofs.YtjdieimefebnfaaGreatDoor
namespace Go.Proofs
open Go.Shelf
def Tryz.jnR:Go.Shelf.Ren:=⟨fun|105=>23|212=>50|99=>51|165=>52|166=>53|170=>54|169=>55|263=>97|264=>98|206=>99|240=>100|241=>101|276=>157|277=>158|156=>152|n=>n,
 fun|9=>9|3=>3|4=>4|20=>20|0=>0|46=>52|109=>111|5=>5|72=>116|76=>119|51=>163|146=>164|53=>137|148=>166|70=>114|37=>57|75=>118|127=>168|164=>219|80=>122|31=>40|n=>n,λn=>n⟩
theorem Tryz.Wc:Lays.n105 Tryz.prog Tryz.jnR where
 mixed:=by kernel_rfl
 f99:=Tryz.func51.trans (congrArg some (by kernel_rfl))
 f105:=Tryz.func23.trans (congrArg some (by kernel_rfl))
 f165:=Tryz.func52.trans (congrArg some (by kernel_rfl))
 f166:=Tryz.func53.trans (congrArg some (by kernel_rfl))
 f169:=Tryz.func55.trans (congrArg some (by kernel_rfl))
 f170:=Tryz.func54.trans (congrArg some (by kernel_rfl))
 f206:=Tryz.func99.trans (congrArg some (by kernel_rfl))
 f212:=Tryz.func50.trans (congrArg some (by kernel_rfl))
 f240:=Tryz.func100.trans (congrArg some (by kernel_rfl))
 f241:=Tryz.func101.trans (congrArg some (by kernel_rfl))
 f263:=Tryz.func97.trans (congrArg some (by kernel_rfl))
 f264:=Tryz.func98.trans (congrArg some (by kernel_rfl))
 f276:=Tryz.func157.trans (congrArg some (by kernel_rfl))
 f277:=Tryz.func158.trans (congrArg some (by kernel_rfl))
 t0:=Tryz.underlying0
 a0:=Tryz.isAgg0
 z0:=Tryz.sizeOf0
 v0:=Tryz.zeroValue0
 t3:=Tryz.underlying3
 a3:=Tryz.isAgg3
 z3:=Tryz.sizeOf3
 v3:=Tryz.zeroValue3
 t4:=Tryz.underlying4
 a4:=Tryz.isAgg4
 z4:=Tryz.sizeOf4
 v4:=Tryz.zeroValue4
 t5:=Tryz.underlying5
 a5:=Tryz.isAgg5
 z5:=Tryz.sizeOf5
 v5:=Tryz.zeroValue5
 t9:=Tryz.underlying9
 a9:=Tryz.isAgg9
 z9:=Tryz.sizeOf9
 v9:=Tryz.zeroValue9
 t20:=Tryz.underlying20
 a20:=Tryz.isAgg20
 z20:=Tryz.sizeOf20
 v20:=Tryz.zeroValue20
 t37:=Tryz.underlying57
 a37:=Tryz.isAgg57
 z37:=Tryz.sizeOf57
 v37:=Tryz.zeroValue57
 t46:=Tryz.underlying52
 a46:=Tryz.isAgg52
 z46:=Tryz.sizeOf52
 v46:=Tryz.zeroValue52
 t51:=Tryz.underlying163
 a51:=Tryz.isAgg163
 z51:=Tryz.sizeOf163
 v51:=Tryz.zeroValue163
 t53:=Tryz.underlying137
 a53:=Tryz.isAgg137
 z53:=Tryz.sizeOf137
 v53:=Tryz.zeroValue137
 t70:=Tryz.underlying114
 a70:=Tryz.isAgg114
 z70:=Tryz.sizeOf114
 v70:=Tryz.zeroValue114
 t72:=Tryz.underlying116
 a72:=Tryz.isAgg116
 z72:=Tryz.sizeOf116
 v72:=Tryz.zeroValue116
 t75:=Tryz.underlying118
 a75:=Tryz.isAgg118
 z75:=Tryz.sizeOf118
 v75:=Tryz.zeroValue118
 t76:=Tryz.underlying119
 a76:=Tryz.isAgg119
 z76:=Tryz.sizeOf119
 v76:=Tryz.zeroValue119
 t109:=Tryz.underlying111
 a109:=Tryz.isAgg111
 z109:=Tryz.sizeOf111
 v109:=Tryz.zeroValue111
 t127:=Tryz.underlying168
 a127:=Tryz.isAgg168
 z127:=Tryz.sizeOf168
 v127:=Tryz.zeroValue168
 t146:=Tryz.underlying164
 a146:=Tryz.isAgg164
 z146:=Tryz.sizeOf164
 v146:=Tryz.zeroValue164
 t148:=Tryz.underlying166
 a148:=Tryz.isAgg166
 z148:=Tryz.sizeOf166
 v148:=Tryz.zeroValue166
 t164:=Tryz.underlying219
 a164:=Tryz.isAgg219
 z164:=Tryz.sizeOf219
 v164:=Tryz.zeroValue219
theorem Tryz.LX : Lays.n156 Tryz.prog Tryz.jnR := { Tryz.Wc with
 f156:=Tryz.func152.trans (congrArg some (by kernel_rfl))
 t31:=Tryz.underlying40
 a31:=Tryz.isAgg40
 z31:=Tryz.sizeOf40
 v31 := Tryz.zeroValue40 }
theorem Tryz.jnX:Builder.Extra Tryz.prog Tryz.jnR where
 sizeBuilder:=by kernel_rfl
 liesBuilder:=by kernel_rfl
 t5:=Tryz.Wc.t5
 a5:=Tryz.Wc.a5
 z5:=Tryz.Wc.z5
 v5:=Tryz.Wc.v5
 infoByte:=by kernel_rfl
 cellsByte:=by kernel_rfl
 sizeByte:=by kernel_rfl
 neB5:=by decide
end Go.Proofs
namespace Go.Proofs.YtjdieimefebnfaaGreatDoor
open Go Go.EV
theorem Bb{α:Type}{c:Bool}{x r:α}(h:(T.Qd (P:=Tryz.prog) (G:=GG) 0 c (.done x)).run=some r):c=true/\r=x:=by
 have e:(T.Qd (P:=Tryz.prog) (G:=GG) 0 c (.done x)).run=(bif c then some x else none):=rfl
 grind
def Qkj(s:za)(n:Nat):za:=⟨(Lib.repeatL s.data.toList n).toArray⟩
def g23(p0:za)(p1:Int):TT za:=.Qd 0 (decide (0<=p1/\p1<=9223372036854775807/\p0.size * p1.toNat<=140737488355328)) (.done (Qkj p0 p1.toNat))
theorem k23(p0:za)(p1:Int)(r:za)(h:(g23 p0 p1).run=some r):QR Tryz.prog GG 23 [.str p0,.int .i64 p1] (Qe []) (.str r) (Qe []):=by
 obtain⟨h1,rfl⟩:=Bb h
 have h1:=of_decide_eq_true h1
 refine Uv (λγ w av hc=>?_) λ_ _ _ _=>.data (.str _)
 obtain⟨a,b,rfl,ha,hb⟩:=NM hc
 obtain rfl:=ha.QW
 obtain rfl:=hb.Qf
 have e:(p1.toNat:Int)=p1:=by omega
 have:=Any.strings_Repeat Tryz.Wc Tryz.jnX p0 p1.toNat w (by omega) h1.2.2
 rw[e] at this
 exact this
def SY(p0:za)(p1:Int):Sp za:=⟨23,[.str p0,.int .i64 p1],[],(g23 p0 p1).run,λr=>.str r,λ_=>[],[],λ_ _ h=>by simp at h,λr h=>k23 p0 p1 r h⟩
theorem uQ(l:List za):(List.map Z2.c l).flatten=l.map V.str:=by
 induction l with
 | nil=>rfl
 | cons x l ih=>exact congrArg (V.str x :: ·) ih
def WG(l:List za)(s:za):za:=⟨(Lib.join (l.map (·.data.toList)) s.data.toList).toArray⟩
def iD(p0:List za)(p1:za):TT za:=.Qd 0 (decide (p0.length<=140737488355328/\(WG p0 p1).size<=140737488355328)) (.done (WG p0 p1))
theorem Qe7(p0:List za)(p1:za)(r:za)(h:(iD p0 p1).run=some r):QR Tryz.prog GG 152 [.sl false 1 (List.map Z2.c p0),.str p1] (Qe []) (.str r) (Qe []):=by
 obtain⟨h1,rfl⟩:=Bb h
 have h1:=of_decide_eq_true h1
 refine Uv (λγ w av hc=>?_) λ_ _ _ _=>.data (.str _)
 obtain⟨a,b,rfl,ha,hb⟩:=NM hc
 obtain rfl:=hb.QW
 rcases ha.Hi with⟨a,rfl,e⟩|⟨B,o,cap,vs,rfl,k1,k2,k3,k4⟩
 ·obtain rfl:p0=[]:=by simpa using e
  exact(Any.strings_Join_none Tryz.LX Tryz.jnX a 0 p1 w).mono λe w' ⟨he,hw⟩=>⟨he,hw▸RowKit.Below.refl _ _⟩
 ·rw[uQ] at k3 k4
  rw[wq] at k1 ⊢
  have hc:∀(j:Nat) x,p0[j]?=some x->w.cell? ⟨B,o+j,none⟩=some (.string x):=λj x hx=>by
   have e:(p0.map V.str)[j]?=some (V.str x):=by grind
   have h2:=(k3 j _ e).2
   have h3:vs j=.string x:=Qu.QW (γ:=γ) (w:=w) (bs:=Qe []) (u:=Qk) (.data (k4 j _ e))
   rw[h3] at h2
   exact h2
  by_cases h0:p0=[]
  ·subst h0
   exact(Any.strings_Join_none Tryz.LX Tryz.jnX _ cap p1 w).mono λe w' ⟨he,hw⟩=>⟨he,hw▸RowKit.Below.refl _ _⟩
  ·obtain⟨x,l,rfl⟩:=List.exists_cons_of_ne_nil h0
   have hB:B < w.heap.size:=World.block_lt_of_cell? _ _ (hc 0 x rfl)
   refine Any.strings_Join Tryz.LX Tryz.jnX B o cap (x :: l) p1 w hc hB h1.1 k1 ?_
   grind [WG,ByteArray.size]
def Qk9(p0:List za)(p1:za):Sp za:=⟨152,[Sl 1 Z2 p0,.str p1],[],(iD p0 p1).run,λr=>.str r,λ_=>[],[],λ_ _ h=>by simp at h,λr h=>Qe7 p0 p1 r h⟩
def tD(p0 p1:Int):TT (za):=.cl 1003 (nN p0 p1) λr440=>.done r440.1
def Ge(p0 p1:Int):Sp (za):=oF [0,1,4,5] Tryz.func194 [.i p0,.i p1] (tD p0 p1) (λr=>.str r)
def Qu9(p0:Z5):TT (za×Int):=.cl 1002 (IE p0) λr439=>.br 0 (!r439) (.done (zd,180)) (.cl 3003 (Ge 6 p0.fO) λr441=>.Qd 3004 (decide ((bs [102,100,1]).size+r441.size<=9223372036854775807)) (.cl 3007 (Ge 6 p0.fG) λr442=>.Qd 3008 (decide (((bs [102,100,1])++r441).size+r442.size<=9223372036854775807)) (.cl 3011 (Ge 6 p0.fH) λr443=>.Qd 3012 (decide ((((bs [102,100,1])++r441)++r442).size+r443.size<=9223372036854775807)) (.cl 3016 (Ge 1 (p0.fA.size:Int)) λr444=>.Qd 3017 (decide (((((bs [102,100,1])++r441)++r442)++r443).size+r444.size<=9223372036854775807)) (.Qd 3020 (decide ((((((bs [102,100,1])++r441)++r442)++r443)++r444).size+p0.fA.size<=9223372036854775807)) (.Qd 3023 (decide (((((((bs [102,100,1])++r441)++r442)++r443)++r444)++p0.fA).size+p0.fL.size<=9223372036854775807)) (.done ((((((((bs [102,100,1])++r441)++r442)++r443)++r444)++p0.fA)++p0.fL),0))))))))
def VM(p0:Z5):Sp (za×Int):=oF [0,1,2,3,6] Tryz.func143 [.agg [.str p0.fA,.str p0.fL,.i p0.fG,.i p0.fH,.i p0.fO]] (Qu9 p0) (λr=>.Qt [.str r.1,.i r.2])
noncomputable def Tp:Code:=(cB (cR (cL (cR (cR (cR (cR (Tryz.f92.body.getD .skip))))))))
def kV:Code:=Mk Tp
def Fp:List (Nat×V):=[(7,.ptr 1000007 0 0),(20,.fn 206 [] [.ptr 1700070 0 0])]
def PrL(y:(List za))(s:za):List (Nat×Qi):=[(1000007,⟨1,true,[[.ref 1900070 0 y.length]]⟩),(1700070,⟨1,true,[[.str s]]⟩)]
def Fg(ts:List (Nat×V))(y:(List za))(s:za):Ext:=Ext.of .normal ts (PrL y s) [BT.of 1900070 Z2 1 y true] (by rfl)
def CG(y:(List za))(s:za)(v:Int):TT ((List za)):=
 .Qd 6004 (decide (0<=(Qm (Int.tdiv v 16))/\(Qm (Int.tdiv v 16)) < ((bs [48,49,50,51,52,53,54,55,56,57,65,66,67,68,69,70]).size:Int))) (.Qd 6007 (decide (0<=(Int.tmod v 16)/\(Int.tmod v 16) < ((bs [48,49,50,51,52,53,54,55,56,57,65,66,67,68,69,70]).size:Int))) (.app 6011 Z2 y [(strOfNums [(QZ (bs [48,49,50,51,52,53,54,55,56,57,65,66,67,68,69,70]) (Qm (Int.tdiv v 16))),(QZ (bs [48,49,50,51,52,53,54,55,56,57,65,66,67,68,69,70]) (Int.tmod v 16))])] 16 false (by intro h;cases h) (.done (y++[(strOfNums [(QZ (bs [48,49,50,51,52,53,54,55,56,57,65,66,67,68,69,70]) (Qm (Int.tdiv v 16))),(QZ (bs [48,49,50,51,52,53,54,55,56,57,65,66,67,68,69,70]) (Int.tmod v 16))])]))))
theorem Qmy(y:(List za))(s:za)(v:Int):Y1 Tryz.prog GG [7,8] 36 (A6 Tp) (Fg [(7,.ptr 1000007 0 0),(8,.int .u8 v)] y s) (CG y s v) (λ(r:(List za))=>Ext.of .normal [] [(1000007,⟨1,true,[[.ref 32 0 r.length]]⟩),(1700070,⟨1,true,[[.str s]]⟩)] [BT.of 32 Z2 1 r true] (by rfl)):=by unfold Y1;kernel_rfl
def Ts(y:(List za))(s:za):List (Nat×Qi):=(Fg [] y s).bs
theorem Qmz(y:(List za))(s:za)(v:Int):Y1 Tryz.prog GG [7,8,20,21] 36 kV (Fg ((21,.int .u8 v) :: Fp) y s) (.done ():TT Unit) (λ_=>Fg [(7,.ptr 1000007 0 0),(8,.int .u8 v)] y s):=by unfold Y1;kernel_rfl
theorem Qet(y:(List za))(s:za)(v:Int):(Fg ((21,.int .u8 v) :: Fp) y s |>.D 36).st=WH (M8 36 (Zm Fp) (Qe (Ts y s))) ([21].zip [.int .u8 v]):=by
 rw[H6 (by rfl)]
 exact(JY 36 Fp _ 21 (.int .u8 v)).symm
theorem Qzg(s:za){r:(List za)}{g:St}(h:QH GG g ((Ext.of .normal [] [(1000007,⟨1,true,[[.ref 32 0 r.length]]⟩),(1700070,⟨1,true,[[.str s]]⟩)] [BT.of 32 Z2 1 r true] (by rfl)).D 36).st):QH GG g (M8 36 (λ_=>.undef) (Qe (Ts r s))):=
 QH.trans h (QH.mob (lits:=[(1000007,⟨1,true,[[.ref 32 0 r.length]]⟩),(1700070,⟨1,true,[[.str s]]⟩)]) (rest:=[]) (kd:=(BT.of 32 Z2 1 r true).k) (d:=32) (m:=1900070) (n:=36) (by decide) (by decide) (by decide) (by show ([1000007,1700070,32]:List Nat).Nodup;decide) (Ty.data _ _) (λp hp=>by cases hp) (by rfl) (by rfl))
theorem Qkl(y:(List za))(s:za)(v:Int){r:(List za)}(hb:(CG y s v).run=some r) :
  Jr Tryz.prog GG 36 (Zm Fp) [21] kV (A6 Tp) (Qe (Ts y s)) [.int .u8 v] (λe b'=>e=.normal/\b'=Qe (Ts r s)):=by
 refine⟨((Fg [(7,.ptr 1000007 0 0),(8,.int .u8 v)] y s).D 36).st,?_,?_⟩
 ·have h:=(Qmz y s v).tv Q8 (r:=()) rfl (by rfl)
  rw[Qet] at h
  exact h
 ·refine((Qmy y s v).tv Q8 hb (by rfl)).mono λe s' hg=>?_
  obtain⟨rfl,g⟩:=hg
  exact⟨_,36,⟨rfl,rfl⟩,Qzg s g⟩
section
variable (l:Nat) (y:(List za)) (s:za) (i:Int)
def kT:List (Nat×V):=[(0,.QP l),(1,.ptr 1700070 0 0),(3,.int .i64 i)]
def PrC:Ext:=Fg (kT l i) y s
def PrD(r:Option Int):Ext:=match r with
 | some c=>Fg (kT l i++[(8,.bool true),(9,.QP l),(12,.int .u8 c)]) y s
 | none=>Fg (kT l i++[(8,.bool false)]) y s
theorem Qmh:Y1 Tryz.prog GG [0,1,3] 17 (cL PB) (Fg [(0,.QP l),(1,.ptr 1700070 0 0)] y s) (.done ():TT Unit) (λ_=>PrC l y s 0):=by unfold Y1;kernel_rfl
theorem Qmu:W5 Tryz.prog GG [0,1,3,8,9,12] 17 1 oY 9 (PrC l y s i) (CP s i) (PrD l y s i):=by unfold W5;kernel_rfl
theorem Qmj:Y1 Tryz.prog GG [0,1,3] 17 aR1 (PrC l y s i) (.done ():TT Unit) (λ_=>PrC l y s (Q0 (i+1))):=by unfold Y1;kernel_rfl
end
def Kx(s:za)(x:(List za)×Int):Option (((List za)×Int)⊕((List za)⊕Unit)):=
 match (CP s x.2).run with
 | none=>none
 | some none=>some (.inr (.inl x.1))
 | some (some c)=>match (CG x.1 s c).run with
  | some y=>some (.inl (y,Q0 (x.2+1)))
  | none=>none
def mPr(y:(List za))(s:za):Option ((List za)⊕Unit):=X7 (Kx s) ZN (y,0)
def yPr:YL:=⟨36,Zm Fp,#[21],kV,A6 Tp⟩
def oPr(s:za):((List za)⊕Unit)->Exit->(zg)->Prop
 | .inl r,e,bw=>e=.normal/\bw=Qe (Ts r s)
 | .inr _,e,bw=>e=.ret/\∃r,bw=Qe (Ts r s)
theorem cE(y:(List za))(s:za){r:(List za)⊕Unit}(h:mPr y s=some r) :
    Uj Tryz.prog GG PB 17 (λl=>[.QP l,.ptr 1700070 0 0]) (Qe (Ts y s)) yPr (oPr s r):=by
  refine Uj.of λl=>?_
  have e0:U3 17 [.QP l,.ptr 1700070 0 0] (Qe (Ts y s))=((Fg (H3 [.QP l,.ptr 1700070 0 0]) y s).D 17).st:=(R8 (x:=Fg (H3 [.QP l,.ptr 1700070 0 0]) y s) (by rfl) (by rfl) 17).symm
  rw[e0,eAl]
  show YT _ _ _ _ _ ⟨.normal,((Fg [(0,.QP l),(1,.ptr 1700070 0 0)] y s).D 17).st⟩ _
  refine YT.seq (YT.piece (Qmh l y s) Q8 rfl (by rfl) λq g=>?_)
  show YT _ _ _ _ _ _ _
  refine YT.DB g (YT.block ?_)
  refine YT.loop (λm st=>st.x=.normal/\∃z:(List za)×Int,QH GG st.st ((PrC l z.1 s z.2).D 17).st/\X7 (Kx s) m z=some r) (λm st hI=>?_) (n:=ZN) ⟨rfl,(y,0),QH.same _,h⟩
  obtain⟨x,st⟩:=st
  obtain⟨rfl,⟨v,i⟩,g,hit⟩:=hI
  refine YT.DB g ?_
  cases m with
  | zero=>simp[X7] at hit
  | succ m=>
    rw[T0] at hit
    rw[eAL]
    cases h4:(CP s i).run with
    | none => have hs0 : Kx s (v, i) = none := by unfold Kx; simp only [h4]
              rw[hs0] at hit;simp at hit
    | some c=>
    refine YT.seq (YT.seq (YT.region ?_))
    show J2 _ _ _ _ _ ([0,1,2,3,4,5,6,7,8]++[9,10]) _ _
    refine J2.tv ((Qmu l v s i).tv Q8 h4 (by cases c<;>rfl)) λe st hq'=>⟨by rw[hq'.1];cases c<;>rfl,J2.DB hq'.2 ?_⟩
    cases c with
    | none=>
      have hs0:Kx s (v,i)=some (.inr (.inl v)):=by unfold Kx;simp only[h4]
      rw[hs0] at hit
      obtain rfl:_=r:=zW hit
      show J2 _ _ _ _ _ _ ⟨.normal,((Fg (kT l i++[(8,.bool false)]) v s).D 17).st⟩ _
      refine J2.step rfl (J2.step rfl (J2.nil ?_))
      show YT _ _ _ _ _ _ _
      refine YT.cond (b:=false) rfl (YT.exit ?_)
      refine⟨.inl rfl,17,Zm (kT l i++[(8,V.bool false),(14,V.bool false)]),Qe (Ts v s),?_,rfl,rfl⟩
      rw[show M8 17 (Zm (kT l i++[(8,V.bool false),(14,V.bool false)])) (Qe (Ts v s))=((Fg (kT l i++[(8,V.bool false),(14,V.bool false)]) v s).D 17).st from(H6 (x:=Fg (kT l i++[(8,V.bool false),(14,V.bool false)]) v s) (by rfl) 17).symm]
      exact W0 (Fg (kT l i++[(8,V.bool false),(14,V.bool false)]) v s) (by rfl) rfl ⟨by rfl,by rfl⟩
    | some c=>
      show J2 _ _ _ _ _ _ ⟨.normal,((Fg (kT l i++[(8,.bool true),(9,.QP l),(12,.int .u8 c)]) v s).D 17).st⟩ _
      have es:=H6 (x:=Fg (kT l i++[(8,V.bool true),(9,V.QP l),(12,V.int .u8 c)]) v s) (by rfl) 17
      rw[es]
      cases h5:(CG v s c).run with
      | some v2=>
        have hs0:Kx s (v,i)=some (.inl (v2,Q0 (i+1))):=by unfold Kx;simp only[h4,h5]
        rw[hs0] at hit
        refine J2.Ku (hi:=rfl) rfl rfl rfl rfl rfl rfl rfl (λi=>O8 (by rfl) i) (λi=>O8 (by rfl) i) (λp hp=>?_) rfl (Qkl v s c h5) (λe b' h=>.inl h.1) λe b' h=>?_
        · have:p∈[21]:=hp
          simp at this
          subst this
          exact(by decide:21 < 36)
        obtain⟨rfl,rfl⟩:=h
        refine J2.step rfl (J2.nil ?_)
        show YT _ _ _ _ _ _ _
        refine YT.cond (b:=true) rfl (YT.skip ?_)
        show YT _ _ _ _ _ _ _
        refine YT.seq (YT.block (YT.skip ?_))
        show YT _ _ _ _ _ _ _
        refine YT.DB (st':=((PrC l v2 s i).D 17).st) (W0 (PrC l v2 s i) (by rfl) rfl ⟨by rfl,by rfl⟩) ?_
        refine YT.piece (Qmj l v2 s i) Q8 rfl (by rfl) λq g=>?_
        exact⟨m,Nat.lt_succ_self m,rfl,(v2,Q0 (i+1)),g,hit⟩
      | none=>
        have hs0:Kx s (v,i)=none:=by unfold Kx;simp only[h4,h5]
        rw[hs0] at hit;simp at hit
def Ov(y:(List za))(s:za):Ext:=Ext.of .normal [(7,.ptr 7 0 0),(20,.fn 206 [] [.ptr 700070 0 0])] [(7,⟨1,true,[[.ref 900070 0 y.length]]⟩),(700070,⟨1,true,[[.str s]]⟩)] [BT.of 900070 Z2 1 y true] (by rfl)
def PrE:((List za)⊕Unit)->Ext
 | .inl r=>Ext.of .normal [(7,.ptr 7 0 0)] [(7,⟨1,true,[[.ref 900070 0 r.length]]⟩)] [BT.of 900070 Z2 1 r true] (by rfl)
 | .inr _=>Ext.of .ret [] [] [] (by rfl)
theorem bPr(y:(List za))(s:za):Zz (Qe (Ov y s).bs)=Qe (Ts y s):=by
 rw[Ue]
 have:((Ov y s).bs.map λp=>(sh p.1,p.2.Qc sh))=Ts y s:=by(simp only[Ov,Ext.of,List.cons_append,List.nil_append,wj,List.map_nil,BT.of,Qi.Qc,Sb]);kernel_rfl
 rw[this]
theorem cZ(y:(List za))(s:za){r:(List za)⊕Unit}(h:mPr y s=some r) :
  TV Tryz.prog GG (.rangeFunc (.tmp 20) #[21] kV (A6 Tp)) ((Ov y s).D 36).st (λe st=>e=(PrE r).ex/\QH GG st ((PrE r).D 36).st):=by
 have ht:(λi=>H8 sh (((Ov y s).D 36).st.t i))=Zm Fp:=by
  have:((Ov y s).D 36).st.t=Zm (Ov y s).ts:=rfl
  rw[this,C4]
  have:((Ov y s).ts.map λp=>(p.1,H8 sh p.2))=Fp:=by kernel_rfl
  rw[this]
 have hb:Tryz.f206.body=some PB:=by kernel_rfl
 refine TV.XD (f:=206) (fi:=Tryz.f206) (c:=PB) (first:=[]) (caps:=[.ptr 1700070 0 0]) (R:=λe bw=>oPr s r e bw) ?_ Tryz.func206 hb (by kernel_rfl) (by kernel_rfl) ?_ (λi=>?_) ?_ ?_
 ·show some ((λi=>H8 sh (((Ov y s).D 36).st.t i)) 20)=_
  rw[ht];rfl
 ·intro bq k hk
  obtain⟨q,h1,rfl,_⟩:=ZL (show Qe (Ov y s).bs bq=some k from hk)
  show ((((Ov y s).us).contains q.1 || Qk q.1))=true
  simp only[Ext.us,zU,zZ,zC]
  exact .inl (zH.2 ⟨q,h1,rfl⟩)
 ·have:=congrFun ht i
  rw[show H8 sh (((Ov y s).D 36).st.t i)=Zm Fp i from this]
  exact O8 (by rfl) i
 ·have hbb:Zz ((Ov y s).D 36).st.b=Qe (Ts y s):=bPr y s
  rw[ht,hbb]
  have e:max Tryz.f206.ntmps (([]:List V).length+1+[V.ptr 1700070 0 0].length)=17:=by kernel_rfl
  rw[e]
  exact cE y s h
 ·intro e b' ho
  rcases r with r|r
  ·obtain⟨rfl,rfl⟩:=ho
   exact⟨.inl rfl,Qe (Ov r s).bs,(bPr r s).symm,Oj (ts:=(Ov y s).ts) (bs:=[(7,⟨1,true,[[.ref 900070 0 r.length]]⟩),(700070,⟨1,true,[[.str s]]⟩)]) (tb:=[BT.of 900070 Z2 1 r true]) (us:=(Ov y s).us) (by rfl) (by rfl) (by rfl),rfl,W0 (PrE (.inl r)) (by rfl) rfl ⟨by rfl,by rfl⟩⟩
  ·obtain⟨rfl,r,rfl⟩:=ho
   exact⟨.inr (.inl rfl),Qe (Ov r s).bs,(bPr r s).symm,Oj (ts:=(Ov y s).ts) (bs:=[(7,⟨1,true,[[.ref 900070 0 r.length]]⟩),(700070,⟨1,true,[[.str s]]⟩)]) (tb:=[BT.of 900070 Z2 1 r true]) (us:=(Ov y s).us) (by rfl) (by rfl) (by rfl),rfl,W0 (PrE (.inr ())) (by rfl) rfl ⟨by rfl,by rfl⟩⟩
def Qqo(y:(List za))(s:za):Sub Tryz.prog GG ((List za)):=
 ⟨.rangeFunc (.tmp 20) #[21] kV (A6 Tp),36,Ov y s,(match mPr y s with|some (.inl r)=>some r|_=>none),λr=>PrE (.inl r),λr h=>cZ y s (r:=.inl r) (by
  cases hm:mPr y s with
  | none=>rw[hm] at h;cases h
  | some x=>
   rw[hm] at h
   cases x with
   | inl x=>obtain rfl:=zW h;rfl
   | inr x=>cases h)⟩
def lI(p0:Z5):TT (za):=.cl 1002 (VM p0) λr445=>.cl 2002 (s95 r445.1) λr446=>.call 4002 (pQ r446.1) [] [(1,500013)] λr447=>.gh 1 (.Qc 500013 700070) (.gh 1 (.IJ 900070 7 0 1) (.sub (Qqo [] r446.1) λr448=>.view 7002 (Qk9 r448 (bs [58])) [(QE.o 900070 Z2 r448)] λr449=>.Qd 7003 (decide ((bs [115,104,97,45,50,53,54,32]).size+r449.size<=9223372036854775807)) (.done ((bs [115,104,97,45,50,53,54,32])++r449))))
def SZ(p0:Z5):Sp (za):=oF [0,1,2,3,5,7,8,20,21] Tryz.func92 [.agg [.str p0.fA,.str p0.fL,.i p0.fG,.i p0.fH,.i p0.fO]] (lI p0) (λr=>.str r)
structure J6 where
 fh:Z5
 FQ:J9
noncomputable def lB:Code:=Tryz.f46.body.getD .skip
def Qeo(s:za):TT (Unit):=
 .done ()
def TI(s:za):Ext:=Ext.of .normal [(0,.str s)] [] [] (by rfl)
def FU(s:za):(Unit)->Ext:=λ(r:Unit)=>Ext.of .normal [(0,.str s),(2,.ptr 2 0 0),(3,.ptr 3 0 0)] [(2,⟨5,true,[[.str zd,.str zd,.i 0,.i 0,.i 0]]⟩),(3,⟨1,true,[[.i 0]]⟩)] [] (by rfl)
theorem Qmn(s:za):Y1 Tryz.prog GG [0,2,3] 52 (cL lB) (TI s) (Qeo s) (FU s):=by unfold Y1;kernel_rfl
def tM(p0:Int):TT ((Unit)⊕(Unit)):=.br 0 (p0 != 0) (.Qy 1002 (Qw.Zw 207 (.tmp 4) 5 (.agg []) (.agg #[]) rfl (by kernel_rfl)) λ_=>.UX 1003 (.done (.inr ()))) (.done (.inl ()))
theorem Qe1(p0:Int):UW Tryz.prog GG [0,3] Tryz.f197 [.i p0] (Ext.of .normal (H3 [.i p0]) [] [] (by rfl)) (tM p0) (λ(_:Unit)=>.Qt []) (λ(r:Unit)=>Ext.of .normal [] [] [] (by rfl)) (λ(r:Unit)=>K0 (.iface 207 (.agg #[]))) (λ(r:Unit)=>Ext.of .normal [] [] [] (by rfl)):=by unfold UW;kernel_rfl
def rU(p0:Int):O5 Pg GG (Unit) (Unit):=.ofFn 197 [] Q8 Tryz.func197 rfl (λ_=>rfl) (λ_=>rfl) (Qe1 p0)
def tS(p0:Int)(p1:J6):TT ((za×Int×za)⊕(Unit)):=.cl 1006 (VU p1.FQ p0) λr450=>.Qo 2002 (rU r450.2.2) [] [] (λr451=>.done (.inl (r450.2.1.fS,r450.2.1.fq,r450.1))) (λr452=>.done (.inr ()))
theorem Qe9(p0:Int)(p1:J6):UW Tryz.prog GG [0,1,4,5,6,7] Tryz.f147 [.ptr 1000000 0 0,.i p0] (Ext.of .normal (H3 [.ptr 1000000 0 0,.i p0]) [(1000000,⟨7,true,[[.str p1.fh.fA,.str p1.fh.fL,.i p1.fh.fG,.i p1.fh.fH,.i p1.fh.fO,.str p1.FQ.fS,.i p1.FQ.fq]]⟩)] [] (by rfl)) (tS p0 p1) (λ(r:za×Int×za)=>.str r.2.2) (λ(r:za×Int×za)=>Ext.of .normal [] [(1000000,⟨7,true,[[.str p1.fh.fA,.str p1.fh.fL,.i p1.fh.fG,.i p1.fh.fH,.i p1.fh.fO,.str r.1,.i r.2.1]]⟩)] [] (by rfl)) (λ(r:Unit)=>K0 (.iface 207 (.agg #[]))) (λ(r:Unit)=>Ext.of .normal [] [] [] (by rfl)):=by unfold UW;kernel_rfl
def VK(p0:Int)(p1:J6):O5 Pg GG (za×Int×za) (Unit):=.ofFn 147 [] Q8 Tryz.func147 rfl (λ_=>rfl) (λ_=>rfl) (Qe9 p0 p1)
def g85(p0:J6):TT ((za×Int)⊕(Unit)):=.Qo 2 (VK 3 p0) [(zA,zA)] [] (λr453=>.br 0 (!decide (r453.2.2=(bs [102,100,1]))) (.Qy 1002 (Qw.Zw 207 (.tmp 5) 6 (.agg []) (.agg #[]) rfl (by kernel_rfl)) λ_=>.UX 1003 (.done (.inr ()))) (.done (.inl (r453.1,r453.2.1)))) (λr454=>.done (.inr ()))
theorem k85(p0:J6):UW Tryz.prog GG [0,4] Tryz.f85 [.ptr 1000000 0 0] (Ext.of .normal (H3 [.ptr 1000000 0 0]) [(1000000,⟨7,true,[[.str p0.fh.fA,.str p0.fh.fL,.i p0.fh.fG,.i p0.fh.fH,.i p0.fh.fO,.str p0.FQ.fS,.i p0.FQ.fq]]⟩)] [] (by rfl)) (g85 p0) (λ(r:za×Int)=>.Qt []) (λ(r:za×Int)=>Ext.of .normal [] [(1000000,⟨7,true,[[.str p0.fh.fA,.str p0.fh.fL,.i p0.fh.fG,.i p0.fh.fH,.i p0.fh.fO,.str r.1,.i r.2]]⟩)] [] (by rfl)) (λ(r:Unit)=>K0 (.iface 207 (.agg #[]))) (λ(r:Unit)=>Ext.of .normal [] [] [] (by rfl)):=by unfold UW;kernel_rfl
def s85(p0:J6):O5 Pg GG (za×Int) (Unit):=.ofFn 85 [] Q8 Tryz.func85 rfl (λ_=>rfl) (λ_=>rfl) (k85 p0)
def tR(p0:Int)(p1:J6):TT ((za×Int×Int)⊕(Unit)):=.cl 1006 (VJ p1.FQ p0) λr451=>.Qo 2002 (rU r451.2.2) [] [] (λr452=>.done (.inl (r451.2.1.fS,r451.2.1.fq,r451.1))) (λr453=>.done (.inr ()))
theorem Qe8(p0:Int)(p1:J6):UW Tryz.prog GG [0,1,4,5,6,7] Tryz.f148 [.ptr 1000000 0 0,.i p0] (Ext.of .normal (H3 [.ptr 1000000 0 0,.i p0]) [(1000000,⟨7,true,[[.str p1.fh.fA,.str p1.fh.fL,.i p1.fh.fG,.i p1.fh.fH,.i p1.fh.fO,.str p1.FQ.fS,.i p1.FQ.fq]]⟩)] [] (by rfl)) (tR p0 p1) (λ(r:za×Int×Int)=>.int .i64 r.2.2) (λ(r:za×Int×Int)=>Ext.of .normal [] [(1000000,⟨7,true,[[.str p1.fh.fA,.str p1.fh.fL,.i p1.fh.fG,.i p1.fh.fH,.i p1.fh.fO,.str r.1,.i r.2.1]]⟩)] [] (by rfl)) (λ(r:Unit)=>K0 (.iface 207 (.agg #[]))) (λ(r:Unit)=>Ext.of .normal [] [] [] (by rfl)):=by unfold UW;kernel_rfl
def Cm(p0:Int)(p1:J6):O5 Pg GG (za×Int×Int) (Unit):=.ofFn 148 [] Q8 Tryz.func148 rfl (λ_=>rfl) (λ_=>rfl) (Qe8 p0 p1)
def g86(p0:J6):TT ((Int×za×Int)⊕(Unit)):=.Qo 3 (Cm 6 p0) [(zA,zA)] [] (λr454=>.done (.inl (r454.2.2,r454.1,r454.2.1))) (λr455=>.done (.inr ()))
theorem k86(p0:J6):UW Tryz.prog GG [0] Tryz.f86 [.ptr 1000000 0 0] (Ext.of .normal (H3 [.ptr 1000000 0 0]) [(1000000,⟨7,true,[[.str p0.fh.fA,.str p0.fh.fL,.i p0.fh.fG,.i p0.fh.fH,.i p0.fh.fO,.str p0.FQ.fS,.i p0.FQ.fq]]⟩)] [] (by rfl)) (g86 p0) (λ(r:Int×za×Int)=>.Qt []) (λ(r:Int×za×Int)=>Ext.of .normal [] [(1000000,⟨7,true,[[.str p0.fh.fA,.str p0.fh.fL,.i p0.fh.fG,.i p0.fh.fH,.i r.1,.str r.2.1,.i r.2.2]]⟩)] [] (by rfl)) (λ(r:Unit)=>K0 (.iface 207 (.agg #[]))) (λ(r:Unit)=>Ext.of .normal [] [] [] (by rfl)):=by unfold UW;kernel_rfl
def s86(p0:J6):O5 Pg GG (Int×za×Int) (Unit):=.ofFn 86 [] Q8 Tryz.func86 rfl (λ_=>rfl) (λ_=>rfl) (k86 p0)
def g87(p0:J6):TT ((Int×za×Int)⊕(Unit)):=.Qo 3 (Cm 6 p0) [(zA,zA)] [] (λr452=>.done (.inl (r452.2.2,r452.1,r452.2.1))) (λr453=>.done (.inr ()))
theorem k87(p0:J6):UW Tryz.prog GG [0] Tryz.f87 [.ptr 1000000 0 0] (Ext.of .normal (H3 [.ptr 1000000 0 0]) [(1000000,⟨7,true,[[.str p0.fh.fA,.str p0.fh.fL,.i p0.fh.fG,.i p0.fh.fH,.i p0.fh.fO,.str p0.FQ.fS,.i p0.FQ.fq]]⟩)] [] (by rfl)) (g87 p0) (λ(r:Int×za×Int)=>.Qt []) (λ(r:Int×za×Int)=>Ext.of .normal [] [(1000000,⟨7,true,[[.str p0.fh.fA,.str p0.fh.fL,.i r.1,.i p0.fh.fH,.i p0.fh.fO,.str r.2.1,.i r.2.2]]⟩)] [] (by rfl)) (λ(r:Unit)=>K0 (.iface 207 (.agg #[]))) (λ(r:Unit)=>Ext.of .normal [] [] [] (by rfl)):=by unfold UW;kernel_rfl
def s87(p0:J6):O5 Pg GG (Int×za×Int) (Unit):=.ofFn 87 [] Q8 Tryz.func87 rfl (λ_=>rfl) (λ_=>rfl) (k87 p0)
def g88(p0:J6):TT ((Int×za×Int)⊕(Unit)):=.Qo 3 (Cm 6 p0) [(zA,zA)] [] (λr453=>.done (.inl (r453.2.2,r453.1,r453.2.1))) (λr454=>.done (.inr ()))
theorem k88(p0:J6):UW Tryz.prog GG [0] Tryz.f88 [.ptr 1000000 0 0] (Ext.of .normal (H3 [.ptr 1000000 0 0]) [(1000000,⟨7,true,[[.str p0.fh.fA,.str p0.fh.fL,.i p0.fh.fG,.i p0.fh.fH,.i p0.fh.fO,.str p0.FQ.fS,.i p0.FQ.fq]]⟩)] [] (by rfl)) (g88 p0) (λ(r:Int×za×Int)=>.Qt []) (λ(r:Int×za×Int)=>Ext.of .normal [] [(1000000,⟨7,true,[[.str p0.fh.fA,.str p0.fh.fL,.i p0.fh.fG,.i r.1,.i p0.fh.fO,.str r.2.1,.i r.2.2]]⟩)] [] (by rfl)) (λ(r:Unit)=>K0 (.iface 207 (.agg #[]))) (λ(r:Unit)=>Ext.of .normal [] [] [] (by rfl)):=by unfold UW;kernel_rfl
def s88(p0:J6):O5 Pg GG (Int×za×Int) (Unit):=.ofFn 88 [] Q8 Tryz.func88 rfl (λ_=>rfl) (λ_=>rfl) (k88 p0)
def g89(p0:J6):TT ((za×za×Int)⊕(Unit)):=.Qo 4 (Cm 1 p0) [(zA,zA)] [] (λr454=>.Qo 5 (VK r454.2.2 (J6.mk p0.fh (J9.mk r454.1 r454.2.1))) [(zA,zA)] [] (λr455=>.done (.inl (r455.2.2,r455.1,r455.2.1))) (λr456=>.done (.inr ()))) (λr457=>.done (.inr ()))
theorem k89(p0:J6):UW Tryz.prog GG [0] Tryz.f89 [.ptr 1000000 0 0] (Ext.of .normal (H3 [.ptr 1000000 0 0]) [(1000000,⟨7,true,[[.str p0.fh.fA,.str p0.fh.fL,.i p0.fh.fG,.i p0.fh.fH,.i p0.fh.fO,.str p0.FQ.fS,.i p0.FQ.fq]]⟩)] [] (by rfl)) (g89 p0) (λ(r:za×za×Int)=>.Qt []) (λ(r:za×za×Int)=>Ext.of .normal [] [(1000000,⟨7,true,[[.str r.1,.str p0.fh.fL,.i p0.fh.fG,.i p0.fh.fH,.i p0.fh.fO,.str r.2.1,.i r.2.2]]⟩)] [] (by rfl)) (λ(r:Unit)=>K0 (.iface 207 (.agg #[]))) (λ(r:Unit)=>Ext.of .normal [] [] [] (by rfl)):=by unfold UW;kernel_rfl
def s89(p0:J6):O5 Pg GG (za×za×Int) (Unit):=.ofFn 89 [] Q8 Tryz.func89 rfl (λ_=>rfl) (λ_=>rfl) (k89 p0)
def g90(p0:J6):TT ((za×za×Int)⊕(Unit)):=.Qo 3 (VK 32 p0) [(zA,zA)] [] (λr455=>.done (.inl (r455.2.2,r455.1,r455.2.1))) (λr456=>.done (.inr ()))
theorem k90(p0:J6):UW Tryz.prog GG [0] Tryz.f90 [.ptr 1000000 0 0] (Ext.of .normal (H3 [.ptr 1000000 0 0]) [(1000000,⟨7,true,[[.str p0.fh.fA,.str p0.fh.fL,.i p0.fh.fG,.i p0.fh.fH,.i p0.fh.fO,.str p0.FQ.fS,.i p0.FQ.fq]]⟩)] [] (by rfl)) (g90 p0) (λ(r:za×za×Int)=>.Qt []) (λ(r:za×za×Int)=>Ext.of .normal [] [(1000000,⟨7,true,[[.str p0.fh.fA,.str r.1,.i p0.fh.fG,.i p0.fh.fH,.i p0.fh.fO,.str r.2.1,.i r.2.2]]⟩)] [] (by rfl)) (λ(r:Unit)=>K0 (.iface 207 (.agg #[]))) (λ(r:Unit)=>Ext.of .normal [] [] [] (by rfl)):=by unfold UW;kernel_rfl
def s90(p0:J6):O5 Pg GG (za×za×Int) (Unit):=.ofFn 90 [] Q8 Tryz.func90 rfl (λ_=>rfl) (λ_=>rfl) (k90 p0)
def DY(s:za):TT ((za×za×Int×Int×Int×Int)⊕(Unit)):=
 .tt (.Qo 6002 (s85 (J6.mk (Z5.mk zd zd 0 0 0) (J9.mk s 0))) [(1000000,11)] [] (λr450=>
  .tt (.Qo 6002 (s86 (J6.mk (Z5.mk zd zd 0 0 0) (J9.mk r450.1 r450.2))) [(1000000,11)] [] (λr451=>
   .tt (.Qo 6002 (s87 (J6.mk (Z5.mk zd zd 0 0 r451.1) (J9.mk r451.2.1 r451.2.2))) [(1000000,11)] [] (λr452=>
    .tt (.Qo 6002 (s88 (J6.mk (Z5.mk zd zd r452.1 0 r451.1) (J9.mk r452.2.1 r452.2.2))) [(1000000,11)] [] (λr453=>
     .tt (.Qo 6002 (s89 (J6.mk (Z5.mk zd zd r452.1 r453.1 r451.1) (J9.mk r453.2.1 r453.2.2))) [(1000000,11)] [] (λr454=>
      .tt (.Qo 6002 (s90 (J6.mk (Z5.mk r454.1 zd r452.1 r453.1 r451.1) (J9.mk r454.2.1 r454.2.2))) [(1000000,11)] [] (λr455=>
       .ff (.QD 8 [46]
       (.br 8010 (r455.2.2 != (s.size:Int))
        (.done true)
        (.cl 8014 (IE (Z5.mk r454.1 r455.1 r452.1 r453.1 r451.1)) λr456=>
         .done (!r456)))
       zi λc457=>
       .br 0 c457
       (.done (.inl (zd,zd,0,0,0,5)))
       (.done (.inl (r454.1,r455.1,r452.1,r453.1,r451.1,0)))))
      (λr458=>
       .done (.inr ()))))
     (λr459=>
      .done (.inr ()))))
    (λr460=>
     .done (.inr ()))))
   (λr461=>
    .done (.inr ()))))
  (λr462=>
   .done (.inr ()))))
 (λr463=>
  .done (.inr ())))
def TA(s:za):Ext:=Ext.of .normal [(0,.str s),(2,.ptr 1000002 0 0),(3,.ptr 1000003 0 0),(7,.fn 84 [] [.ptr 1000002 0 0,.ptr 1000003 0 0])] [(1000002,⟨5,true,[[.str zd,.str zd,.i 0,.i 0,.i 0]]⟩),(1000003,⟨1,true,[[.i 0]]⟩)] [] (by rfl)
def Rw(s:za)(r:za×za×Int×Int×Int×Int):Ext:=Ext.of .ret [(2,.ptr 1000002 0 0),(3,.ptr 1000003 0 0)] [(1000002,⟨5,true,[[.str r.1,.str r.2.1,.i r.2.2.1,.i r.2.2.2.1,.i r.q.1]]⟩),(1000003,⟨1,true,[[.i r.q.2]]⟩)] [] (by rfl)
def Rh(s:za)(r:Unit):Ext:=Ext.of (.panic (K0 (.iface 207 (.agg #[])))) [(2,.ptr 1000002 0 0),(3,.ptr 1000003 0 0)] [(1000002,⟨5,true,[[.str zd,.str zd,.i 0,.i 0,.i 0]]⟩),(1000003,⟨1,true,[[.i 0]]⟩)] [] (by rfl)
theorem Qmg(s:za):Y1 Tryz.prog GG [0,2,3,4,6,7,24,25,26,46] 52 (cR (cR lB)) (TA s) (DY s) (Sum.elim (Rw s) (Rh s)):=by unfold Y1;kernel_rfl
def lV:Array Oper:=Ik (cL (cR lB))
def NW:Oper:=(lV[0]?).get (by kernel_rfl)
def kQ:Oper:=(lV[1]?).get (by kernel_rfl)
theorem eBd:Tryz.f46.body=some ([cL lB].foldr Code.seq (.seq (.region 1 #[NW,kQ] false) (cR (cR lB)))):=by kernel_rfl
noncomputable def cBc:Code:=Tryz.f84.body.getD .skip
def gZ:Array Oper:=Ik (cL cBc)
def Qd1:Oper:=(gZ[0]?).get (by kernel_rfl)
def Qd0:Oper:=(gZ[1]?).get (by kernel_rfl)
theorem eBc:Tryz.f84.body=some (.seq (.region 0 #[Qd1,Qd0] false) (cR cBc)):=by kernel_rfl
def hH:Value:=.iface 207 (.agg #[])
abbrev Sw:=za×za×Int×Int×Int×Int
def zBd:Sw:=(zd,zd,0,0,0,0)
def Uz(r:Sw):List (Nat×Qi):=[(1000002,⟨5,true,[[.str r.1,.str r.2.1,.int .i64 r.2.2.1,.int .i64 r.2.2.2.1,.int .i64 r.q.1]]⟩),(1000003,⟨1,true,[[.int .i64 r.q.2]]⟩)]
def HP:List V:=[.ptr 1000002 0 0,.ptr 1000003 0 0]
def mV(v:Value)(h:HK v=true)(r:Sw):Ext:=Ext.of .normal [(0,.ptr 1000002 0 0),(1,.ptr 1000003 0 0),(2,.Zw v),(3,.Zw v)] (Uz r) [] (by rfl)
def Qef:TT Unit:=.Qy 1002 (Qw.bG (ms:=#[]) 20 20 (.tmp 4) 5 (by kernel_rfl)) λ_=>.ff (.done ())
theorem Qmp(r:Sw):Y1 Tryz.prog GG [0,1,2,3,5] 7 (cR cBc) (mV .nilIface rfl r) Qef (λ_=>Ext.of .normal [] (Uz r) [] (by rfl)):=by unfold Y1;kernel_rfl
def Qel:TT Unit:=.Qy 1002 (Qw.aI 20 20 (.tmp 4) 5 207 (.agg #[]) (by kernel_rfl)) λ_=>.tt (.done ())
theorem Qmr(r:Sw):Y1 Tryz.prog GG [0,1,2,3,5] 7 (cR cBc) (mV hH rfl r) Qel (λ_=>Ext.of .normal [] (Uz (zd,zd,0,0,0,5)) [] (by rfl)):=by unfold Y1;kernel_rfl
theorem NK(r:Sw):∀b k,Qe (Uz r) b=some k->X1 b=true:=λb k h=>by
 obtain⟨p,h1,rfl,_⟩:=ZL h
 simp only[Uz,zO,zT,or_false] at h1
 rcases h1 with rfl|rfl
 ·grind [X1]
 grind [X1]
theorem bdD{u u':FrameMode}{rv:Value}{r r':Sw}{x x':Ext}{kp:List Nat}{g:TT Unit}(hi:HK rv=true)(hr:HV u rv u')(k:Y1 Tryz.prog GG kp 7 (cR cBc) x g (λ_=>x'))(hg:g.run=some ())(hok:x'.ok=true)(hex:x'.ex=.normal)
  (h0:QH GG (((U3 7 HP (Qe (Uz r))).put (some 3) (.Zw rv)).put (some 2) (.Zw rv)) (x.D 7).st) (hb:x'.bs=Uz r') :
  OZ Tryz.prog GG 84 HP (Qe (Uz r)) u u' (Qe (Uz r')):=by
 refine PS (n:=7) (t1:=3) (t2:=2) (rv:=rv) Tryz.func84 eBc (by kernel_rfl) (by kernel_rfl) (by kernel_rfl) (by kernel_rfl) (by kernel_rfl) (by kernel_rfl) (by kernel_rfl) (by decide) (by decide) hi hr (by kernel_rfl) ?_
 have h:=k.tv Q8 (r:=()) hg hok
 exact(TV.ghost h0 h).mono λe s hq=>⟨.inl (hq.1.trans hex),_,hq.2,λb k hk=>by rw[<-hb] at hk;exact hk⟩
theorem Qhl(r:Sw):OZ Tryz.prog GG 84 HP (Qe (Uz r)) .returning .returning (Qe (Uz r)):=
 bdD rfl (.inl ⟨rfl,rfl,rfl⟩) (Qmp r) rfl (by rfl) rfl (W0 (mV .nilIface rfl r) (by rfl) rfl ⟨by rfl,by rfl⟩) rfl
theorem Qhf(r:Sw):OZ Tryz.prog GG 84 HP (Qe (Uz r)) (.panicking (K0 hH)) (.panicking [{ v:=hH,recovered:=true }]) (Qe (Uz (zd,zd,0,0,0,5))):=
 bdD rfl (.inr ⟨hH,[],rfl,rfl,rfl⟩) (Qmr r) rfl (by rfl) rfl (W0 (mV hH rfl r) (by rfl) rfl ⟨by rfl,by rfl⟩) rfl
def bdV(r:Sw):V:=.Qt [.agg [.str r.1,.str r.2.1,.int .i64 r.2.2.1,.int .i64 r.2.2.2.1,.int .i64 r.q.1],.int .i64 r.q.2]
def UC(s:za):Ext:=Ext.of .normal [(0,.str s),(2,.ptr 1000002 0 0),(3,.ptr 1000003 0 0)] (Uz zBd) [] (by rfl)
def kJ:V:=.fn 84 [] HP
theorem Qhi{x:Ext}(h:x.us=[1000002,1000003]):(x.D 52).st.u=Qk:=funext λb=>by
 show (x.us.contains b || Qk b)=Qk b
 rw[h]
 by_cases h1:b=1000002
 ·subst h1;rfl
 ·by_cases h2:b=1000003
  ·subst h2;rfl
  grind
theorem kZ(s:za){q:Sw⊕Unit}{x:Ext}{u u':FrameMode}{r r':Sw}(hx:Sum.elim (Rw s) (Rh s) q=x)(h2:(DY s).run=some q)(hok:x.ok=true)(hl:Go.EV.Left u x.ex)(hbs:(x.D 52).st.b=Qe (Uz r))(hus:x.us=[1000002,1000003])
  (hD:OZ Tryz.prog GG 84 HP (Qe (Uz r)) u u' (Qe (Uz r'))) (hu:settle u'=.returning)
  (hres:L2 Tryz.prog ⟨52,(x.D 52).st.t,Qe (Uz r'),λ_=>true⟩ Tryz.f46.results.toList=some (bdV r')) :
  QR Tryz.prog GG 46 [.str s] (Qe []) (bdV r') (Qe []):=by
 subst hx
 have e0:U3 52 [.str s] (Qe [])=((TI s).D 52).st:=(R8 (x:=TI s) (by rfl) (by rfl) 52).symm
 have t0:=(Qmn s).tv Q8 (r:=()) rfl (by rfl)
 have t2:=(Qmg s).tv Q8 h2 hok
 have hnoB:(Qe []:zg)=Ii:=rfl
 rw[hnoB] at e0 ⊢
 have hsh:QH GG ((FU s ()).D 52).st.shift ((UC s).D 52).st:=by
  have eT:((FU s ()).ts.map λp=>(p.1,H8 sh p.2))=(UC s).ts:=by kernel_rfl
  have eB:((FU s ()).bs.map λp=>(sh p.1,p.2.Qc sh))=(UC s).bs:=by kernel_rfl
  rw[JN,eT,eB]
  exact W0 (UC s) (by rfl) rfl ⟨by rfl,by rfl⟩
 have st5:P1 Tryz.prog GG #[NW,kQ] 0 ((UC s).D 52).st (((UC s).D 52).st.put (some 7) kJ):=C6 (by rfl)
 have g0:M6 #[NW,kQ] ((UC s).D 52).st NW=some true:=by rfl
 have h0:I2 Tryz.prog GG NW ((UC s).D 52).st (((UC s).D 52).st.put (some 7) kJ):=by
  unfold P1 at st5
  simp only[show (#[NW,kQ]:Array Oper)[0]?=some NW from rfl] at st5
  rcases st5 with⟨_,h⟩|⟨h,_⟩
  ·exact h
  ·rw[g0] at h;simp at h
 have gB:QH GG (((UC s).D 52).st.put (some 7) kJ) ((TA s).D 52).st:=W0 (TA s) (by rfl) rfl ⟨by rfl,by rfl⟩
 refine NZ (As:=[cL lB]) (rest:=cR (cR lB)) (rid:=1) (t:=7) (n:=52) (o0:=NW) (o1:=kQ) (caps:=HP) (insD:=Qe (Uz r)) (outsD:=Qe (Uz r')) (S0:=((FU s ()).D 52).st) (S1:=((UC s).D 52).st) (S2:=((Sum.elim (Rw s) (Rh s) q).D 52).st) (u:=u) (u':=u')
  Tryz.func46 eBd (by kernel_rfl) ?_ hsh h0 g0 (by kernel_rfl) (by kernel_rfl) (by rfl) (TV.ghost gB t2) hl (λc hc=>?_) (show 7 < 52 by decide) ⟨hbs,Qhi hus⟩ ⟨NK r,NK r'⟩ Tryz.func84 (by kernel_rfl) (by kernel_rfl) hD hu hres
  λγ w v h=>Qu.AW (γ:=γ) (γ':=γ.Ql) (λB o v h1 h2=>⟨h1,h2⟩) h (by rfl)
 ·rw[e0]
  show TV _ _ (cL lB) _ _
  exact t0
 ·simp only[HP,zO,zT,or_false] at hc
  rcases hc with rfl|rfl
  ·exact⟨1000002,_,rfl,by decide,rfl⟩
  ·exact⟨1000003,_,rfl,by decide,rfl⟩
def gQ(s:za):Option Sw:=match (DY s).run with
 | some (.inl r)=>some r
 | some (.inr _)=>some (zd,zd,0,0,0,5)
 | none=>none
theorem Qho(s:za){r:Sw}(h:gQ s=some r):QR Tryz.prog GG 46 [.str s] (Qe []) (bdV r) (Qe []):=by
 unfold gQ at h
 split at h
 ·rename_i q hq
  obtain rfl:=zW h
  exact kZ s (r:=q) (r':=q) rfl hq (by rfl) (.inl ⟨rfl,rfl⟩) rfl rfl (Qhl q) rfl (by kernel_rfl)
 ·rename_i q hq
  obtain rfl:=zW h
  exact kZ s (r:=zBd) rfl hq (by rfl) (.inr (.inr ⟨_,rfl,rfl⟩)) rfl rfl (Qhf zBd) rfl (by kernel_rfl)
 ·cases h
def s46(p0:za):Sp (Z5×Int):=⟨46,[.str p0],[],(gQ p0).map λr=>(⟨r.1,r.2.1,r.2.2.1,r.2.2.2.1,r.q.1⟩,r.q.2),λr=>bdV (r.1.fA,r.1.fL,r.1.fG,r.1.fH,r.1.fO,r.2),λ_=>[],[],λ_ _ h=>by simp at h,λr h=>by obtain⟨q,hq,rfl⟩:=zE.1 h;exact Qho p0 hq⟩
def g47(p0:Z5):TT (za×Int):=.cl 1002 (IE p0) λr464=>.br 0 (!r464) (.done (zd,180)) (.cl 3002 (SZ p0) λr465=>.done (r465,0))
def s47(p0:Z5):Sp (za×Int):=oF [0,1,2,3,6] Tryz.func47 [.agg [.str p0.fA,.str p0.fL,.i p0.fG,.i p0.fH,.i p0.fO]] (g47 p0) (λr=>.Qt [.str r.1,.i r.2])
def Qus(p0:za):TT (Bool):=.cl 1002 (s46 p0) λr466=>.done (r466.2==0)
def dF(p0:za):Sp (Bool):=oF [0,2,4] Tryz.func117 [.str p0] (Qus p0) (λr=>.bool r)
def Qyy(p0:za):TT (Bool):=.cl 1002 (Lz p0) λr470=>.done (!r470)
def nM(p0:za):Sp (Bool):=oF [0,2] Tryz.func268 [.str p0] (Qyy p0) (λr=>.bool r)
def Qjn(p0:List za):TT (Int):=.QM 1 (.lp (λ(l472:Int)=>Ext.l .normal [(0,Sl 1 Z2 p0),(1,.fn 268 [] []),(4,.i 0),(7,.i (M9 Z2 p0)),(8,.i l472)] []) (λl472=>.br 0 (decide (l472 < (M9 Z2 p0))) (.row 4004 Z2 p0 l472.toNat (decide (0<=l472)) λx473=>.cl 4006 (nM x473) λr474=>.br 0 r474 (.done (.inr (.inl l472))) (.done (.inl (Q0 (l472+1))))) (.done (.inr (.inr ())))) 0) (λ(e475:Int)=>Ext.l .ret [(4,.i e475)] []) (λ(e476:Unit)=>Ext.l (.exit 0) [(4,.i 0)] []) (λe475=>.done e475) (λe476=>.done (-1))
def rL(p0:List za):Sp (Int):=oF [0,1,4,5,7,8,9,16] Tryz.func173 [Sl 1 Z2 p0,.fn 268 [] []] (Qjn p0) (λr=>.int .i64 r)
def Qut(p0:List za):TT (Bool):=.cl 1003 (rL p0) λr477=>.done (decide ((0:Int)<=r477))
def pP(p0:List za):Sp (Bool):=oF [0,1,4] Tryz.func114 [Sl 1 Z2 p0,.fn 268 [] []] (Qut p0) (λr=>.bool r)
def g93(p0:List za)(p1:za):TT (Int):=.QM 1 (.lp (λ(l482:Int)=>Ext.l .normal [(0,Sl 1 Z2 p0),(1,.str p1),(4,.i 0),(7,.i (M9 Z2 p0)),(8,.i l482)] []) (λl482=>.br 0 (decide (l482 < (M9 Z2 p0))) (.row 4004 Z2 p0 l482.toNat (decide (0<=l482)) λx483=>.br 0 (decide (p1=x483)) (.done (.inr (.inl l482))) (.done (.inl (Q0 (l482+1))))) (.done (.inr (.inr ())))) 0) (λ(e484:Int)=>Ext.l .ret [(4,.i e484)] []) (λ(e485:Unit)=>Ext.l (.exit 0) [(4,.i 0)] []) (λe484=>.done e484) (λe485=>.done (-1))
def s93(p0:List za)(p1:za):Sp (Int):=oF [0,1,4,5,7,8,9,16] Tryz.func93 [Sl 1 Z2 p0,.str p1] (g93 p0 p1) (λr=>.int .i64 r)
def Qyj(p0:Z5)(p1:List za):TT (Int×Int):=.cl 1002 (IE p0) λr467=>.br 0 (!r467) (.done (0,180)) (.br 0 (decide ((8:Int) < (M9 Z2 p1))) (.done (0,3)) (.cl 5002 (pP p1) λr478=>.br 0 r478 (.done (0,5)) (.cl 7003 (SZ p0) λr479=>.cl 7004 (s93 p1 r479) λr486=>.br 0 (decide (r486 < 0)) (.done (0,4)) (.done (r486,0)))))
def nE(p0:Z5)(p1:List za):Sp (Int×Int):=oF [0,1,2,4,5,6,9,12,14,20] Tryz.func262 [.agg [.str p0.fA,.str p0.fL,.i p0.fG,.i p0.fH,.i p0.fO],Sl 1 Z2 p1] (Qyj p0 p1) (λr=>.Qt [.i r.1,.i r.2])
def Qye(p0:Z5)(p1:List za)(p2:Int):TT (Int):=.cl 1003 (nE p0 p1) λr487=>.br 0 (r487.2 != 0) (.done r487.2) (.QD 4 [18] (.oR 4004 (decide (p2 < 0)) (.done (decide ((1099511627776:Int) < p2)))) zi λc488=>.br 0 c488 (.done 2) (.QD 6 [25] (.oR 6006 (decide (p2 < p0.fG)) (.done (decide (p0.fH < p2)))) zi λc489=>.br 0 c489 (.done 10) (.done 0)))
def nI(p0:Z5)(p1:List za)(p2:Int):Sp (Int):=oF [0,1,2,3,6,8,16,18,25] Tryz.func251 [.agg [.str p0.fA,.str p0.fL,.i p0.fG,.i p0.fH,.i p0.fO],Sl 1 Z2 p1,.i p2] (Qye p0 p1 p2) (λr=>.int .i64 r)
structure Qq where
 fp:Int
 fR:Int
 fe:za
structure Z7 where
 fq:Int
 fV:Int
 fM:Int
def Qh4(p0 p1:Int):TT (Bool):=.QD 1 [4] (.an 1004 (decide ((0:Int)<=p0)) (.done (decide (p0<=p1)))) zi λc490=>.done c490
def RN(p0 p1:Int):Sp (Bool):=oF [0,1,4] Tryz.func102 [.i p0,.i p1] (Qh4 p0 p1) (λr=>.bool r)
def g58(p0:Qq):TT (Int):=.QD 1 [18] (.cl 1003 (RN p0.fp 255) λr491=>.oR 1006 (!r491) (.cl 1008 (RN p0.fR 65535) λr492=>.oR 1012 (!r492) (.done (decide ((4000:Int) < (p0.fe.size:Int)))))) zi λc493=>.br 0 c493 (.done 190) (.done 0)
def s58(p0:Qq):Sp (Int):=oF [0,1,2,18] Tryz.func58 [.agg [.i p0.fp,.i p0.fR,.str p0.fe]] (g58 p0) (λr=>.int .i64 r)
def rO(p0:Int):Sp (Int):=oF [0,2] Tryz.func175 [.i p0] (.Qd 1003 (decide ((0:Int)<=(Q0 (p0 - 1)))) (.done (if (6400:Int) < (M3 .i64 400 (Q0 (p0 - 1))) then (6400:Int) else (M3 .i64 400 (Q0 (p0 - 1))))):TT (Int)) (λr=>.int .i64 r)
def Qup(p0:Z7):TT (Int):=.QD 2 [31] (.an 2004 (!((p0.fq==(-1))&&((p0.fV==0)&&((p0.fM==0)&&true)))) (.oR 2008 (decide (p0.fq < 0)) (.oR 2013 (decide (p0.fM < 1)) (.oR 2018 (decide ((8:Int) < p0.fM)) (.cl 2022 (rO p0.fM) λr494=>.done (p0.fV != r494)))))) zi λc495=>.br 0 c495 (.done 192) (.done 0)
def dO(p0:Z7):Sp (Int):=oF [0,1,2,3,31] Tryz.func118 [.agg [.i p0.fq,.i p0.fV,.i p0.fM]] (Qup p0) (λr=>.int .i64 r)
def Qjt(p0:Z7)(p1:Int):TT (Bool×Int):=.cl 1002 (dO p0) λr496=>.br 0 (r496 != 0) (.done (false,192)) (.cl 3002 (RN p1 1099511627776) λr497=>.br 0 (!r497) (.done (false,2)) (.cl 5004 (RN p0.fq p1) λr498=>.done (r498,0)))
def dM(p0:Z7)(p1:Int):Sp (Bool×Int):=oF [0,1,2,4,5,6,10] Tryz.func167 [.agg [.i p0.fq,.i p0.fV,.i p0.fM],.i p1] (Qjt p0 p1) (λr=>.Qt [.bool r.1,.i r.2])
def Qjc(p0:Z7)(p1:Int):TT (Z7×Int):=.cl 1003 (dM p0 p1) λr499=>.br 0 (r499.2 != 0) (.done ((Z7.mk 0 0 0),r499.2)) (.br 0 (!r499.1) (.done ((Z7.mk 0 0 0),8)) (.br 0 (p0.fM==8) (.done ((Z7.mk 0 0 0),4)) (.cl 8004 (rO (Q0 (p0.fM+1))) λr500=>.done ((Z7.mk (Q0 (p1+r500)) r500 (Q0 (p0.fM+1))),0))))
def rR(p0:Z7)(p1:Int):Sp (Z7×Int):=oF [0,1,2,4,5,6,7,8,15,20,24] Tryz.func168 [.agg [.i p0.fq,.i p0.fV,.i p0.fM],.i p1] (Qjc p0 p1) (λr=>.Qt [.agg [.i r.1.fq,.i r.1.fV,.i r.1.fM],.i r.2])
def Qj3(p0:Int):TT (Z7×Int):=.cl 1002 (RN p0 1099511627776) λr501=>.br 0 (!r501) (.done ((Z7.mk 0 0 0),2)) (.done ((Z7.mk (Q0 (p0+400)) 400 1),0))
def nT(p0:Int):Sp (Z7×Int):=oF [0,2,3,6] Tryz.func212 [.i p0] (Qj3 p0) (λr=>.Qt [.agg [.i r.1.fq,.i r.1.fV,.i r.1.fM],.i r.2])
end Go.Proofs.YtjdieimefebnfaaGreatDoor
