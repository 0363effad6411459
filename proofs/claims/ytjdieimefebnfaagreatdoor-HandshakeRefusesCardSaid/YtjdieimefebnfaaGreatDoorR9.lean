/- Guides and contracts, printed by a program. Guides and contracts, printed by a program. A range P2 a simple iterator, put together by a program: Va ..; no conditions. -/
import Derived.Test.YtjdieimefebnfaaGreatDoorR8
import Derived.Test.YtjdieimefebnfaaGreatDoorR6
import Derived.KernelRfl
import Derived.Shelf.Strings.Repeat
import Derived.Shelf.Strings.OnBuilder
set_option linter.unusedVariables false
set_option linter.unusedSimpArgs false
set_option maxRecDepth 100000
noncomputable section
namespace Go.Proofs.YtjdieimefebnfaaGreatDoor
open Go Go.EV
def Q5:Ty Int:=⟨λx=>[.i x],λx=>[.i x],λ_=>rfl,λ_=>rfl,λ_ _=>rfl,λ_=>rfl⟩
def Yi(o:Operand)(d b:Nat)(f:Nat->Int):Qh Tryz.prog GG Unit:=.DM 191 o d b ⟨1,true,(Y6 f).map Q5.c⟩ (.agg (V3 f)) (show 1 < Y9 by decide) (by kernel_rfl)
def HD(o v:Operand)(b:Nat)(f g:Nat->Int):Qh Tryz.prog GG Unit:=.KN (ty:=Q5) 191 o v b ⟨1,true,(Y6 f).map Q5.c⟩ (.agg (V3 g)) (Y6 g) (λ_=>rfl) (show 1 < Y9 by decide) rfl rfl rfl (by kernel_rfl) (by kernel_rfl)
def Xf(d:Nat):Qh Tryz.prog GG Unit:=.Ms (ty:=Q5) 191 d (Y6 λ_=>0) (λ_=>rfl) (by kernel_rfl)
def Mv(o i:Operand)(d b:Nat)(f:Nat->Int)(n:Int):Qh Tryz.prog GG Unit:=.Ya (e:=3) 191 o i d b ⟨1,true,(Y6 f).map Q5.c⟩ 0 .i64 n 16 (by kernel_rfl) (by kernel_rfl)
def s71 :Sp (ze):=oF [0] Tryz.func71 [] (.Qq 1003 (Qh.Ug (ty:=Y4) (t:=57) (e:=5) (k:=.u8) (.const (.int .i64 31)) (.const (.int .i64 31)) 3 31 1) λ_=>.Qq 1004 (Qh.JU (ty:=Y4) (s:=57) (t:=9) (e:=5) (.tmp 3) 4 3 (List.replicate 31 (0:Int)) 31 (hn:=(by simp))) λ_=>.Ql 1005 (decide ((bs [9]).size+(strOfNums (List.replicate 31 (0:Int))).size<=9223372036854775807)) (.done ((bs [9])++(strOfNums (List.replicate 31 (0:Int))))):TT (ze)) (λr=>.str r)
def Qmt(p0:ze):TT (ze):=.Qq 1002 (Qh.octets (ty:=Y4) (s:=9) (t:=57) (e:=5) (.tmp 4) 5 p0) λ_=>.Ql 2003 (decide (0<=(0:Int))&&decide ((0:Int) < ((Q3 p0).length:Int))) (.row 2004 Y4 (Q3 p0) 0 true λx292=>.Ql 2007 (decide (0<=(0:Int))&&decide ((0:Int) < ((Q3 p0).length:Int))) (.row 2008 Y4 (Q3 p0) 0 true λx293=>.re 2008 (Jx.put 5 1 Y4 (Q3 p0) 0 (Qk ((Qk (Int.tdiv x292 8)) * 8))) (.gh 5 (.len 5 (((Q3 p0).set 0 (Qk ((Qk (Int.tdiv x292 8)) * 8))).length) [(Q3 p0).length] (by simp)) (.Ql 3003 (decide (0<=(31:Int))&&decide ((31:Int) < (((Q3 p0).set 0 (Qk ((Qk (Int.tdiv x292 8)) * 8))).length:Int))) (.row 3004 Y4 ((Q3 p0).set 0 (Qk ((Qk (Int.tdiv x292 8)) * 8))) 31 true λx294=>.Ql 3007 (decide (0<=(31:Int))&&decide ((31:Int) < (((Q3 p0).set 0 (Qk ((Qk (Int.tdiv x292 8)) * 8))).length:Int))) (.row 3008 Y4 ((Q3 p0).set 0 (Qk ((Qk (Int.tdiv x292 8)) * 8))) 31 true λx295=>.re 3008 (Jx.put 5 1 Y4 ((Q3 p0).set 0 (Qk ((Qk (Int.tdiv x292 8)) * 8))) 31 (Qk ((Int.tmod x294 64)+64))) (.gh 6 (.len 5 ((((Q3 p0).set 0 (Qk ((Qk (Int.tdiv x292 8)) * 8))).set 31 (Qk ((Int.tmod x294 64)+64))).length) [((Q3 p0).set 0 (Qk ((Qk (Int.tdiv x292 8)) * 8))).length] (by simp)) (.Qq 4002 (Qh.JU (ty:=Y4) (s:=57) (t:=9) (e:=5) (.tmp 20) 21 5 (((Q3 p0).set 0 (Qk ((Qk (Int.tdiv x292 8)) * 8))).set 31 (Qk ((Int.tmod x294 64)+64))) ((((Q3 p0).set 0 (Qk ((Qk (Int.tdiv x292 8)) * 8))).set 31 (Qk ((Int.tmod x294 64)+64))).length) (hn:=(by simp))) λ_=>.done (strOfNums (((Q3 p0).set 0 (Qk ((Qk (Int.tdiv x292 8)) * 8))).set 31 (Qk ((Int.tmod x294 64)+64))))))))))))
def vV(p0:ze):Sp (ze):=oF [0,2,3] Tryz.func126 [.str p0] (Qmt p0) (λr=>.str r)
def Qmc(p0:ze):TT ((Nat->Int)):=.Qq 1 (Xf 2) λ_=>.Qq 1001 (Xf 3) λ_=>.bind 1 (.lp (λ(l299:(Nat->Int)×Int)=>Ext.of .normal [(0,.str p0),(2,.ptr 2 0 0),(3,.ptr 3 0 0),(4,.i l299.2)] [] [BT.of 2 Q5 1 (Y6 (λ_=>0)) true,BT.of 3 Q5 1 (Y6 l299.1) true] (by rfl)) (λl299=>.br 0 (decide (l299.2 < 16)) (.Ql 5005 (decide (0<=(Q0 ((2:Int) * l299.2))/\(Q0 ((2:Int) * l299.2)) < (p0.size:Int))) (.Ql 5011 (decide (0<=(Q0 ((Q0 ((2:Int) * l299.2))+1))/\(Q0 ((Q0 ((2:Int) * l299.2))+1)) < (p0.size:Int))) (.Qq 5015 (Mv (.tmp 3) (.tmp 9) 23 3 l299.1 l299.2) λ_=>.row 5016 Q5 (Y6 l299.1) (0+l299.2.toNat) true λx300=>.re 5016 (Jx.Oz 3 Q5 l299.1 (0+l299.2.toNat) (Q0 ((Q0 (QQ p0 (Q0 ((2:Int) * l299.2))))+(Q0 ((256:Int) * (Q0 (QQ p0 (Q0 ((Q0 ((2:Int) * l299.2))+1))))))))) (.done (.inl ((U6 l299.1 (0+l299.2.toNat) (Q0 ((Q0 (QQ p0 (Q0 ((2:Int) * l299.2))))+(Q0 ((256:Int) * (Q0 (QQ p0 (Q0 ((Q0 ((2:Int) * l299.2))+1))))))))),(Q0 (l299.2+1)))))))) (.done (.inr l299.1))) ((λ_=>0),0)) (λ(e301:(Nat->Int))=>Ext.of (.exit 0) [(2,.ptr 2 0 0),(3,.ptr 3 0 0)] [] [BT.of 2 Q5 1 (Y6 (λ_=>0)) true,BT.of 3 Q5 1 (Y6 e301) true] (by rfl)) (λe301=>.Qq 6001 (Mv (.tmp 3) (.const (.int .i64 15)) 24 3 e301 15) λ_=>.row 6002 Q5 (Y6 e301) 15 true λx302=>.Qq 6004 (Mv (.tmp 3) (.const (.int .i64 15)) 27 3 e301 15) λ_=>.row 6005 Q5 (Y6 e301) 15 true λx303=>.re 6005 (Jx.Oz 3 Q5 e301 15 (Int.tmod x302 32768)) (.Qq 7001 (Yi (.tmp 3) 28 3 (U6 e301 15 (Int.tmod x302 32768))) λ_=>.Qq 7002 (HD (.tmp 2) (.tmp 28) 2 (λ_=>0) (U6 e301 15 (Int.tmod x302 32768))) λ_=>.done (U6 e301 15 (Int.tmod x302 32768))))
def vT(p0:ze):Sp ((Nat->Int)):=oF [0,2,3,4,6] Tryz.func127 [.str p0] (Qmc p0) (λr=>.agg (V3 r))
def Qmb(p0:Int):TT ((Nat->Int)):=.Qq 1 (Xf 2) λ_=>.Qq 1004 (Xf 3) λ_=>.Qq 1005 (Qh.KN (ty:=Q5) 191 (.tmp 3) (.tmp 6) 3 ⟨1,true,(List.map Q5.c (Y6 (λ_=>0)))⟩ (.agg (H8 [.int .i64 (Int.tmod p0 65536)] (X7 15 (.int .i64 0) []))) (Y6 (U6 (λ_=>0) 0 (Int.tmod p0 65536)))) λ_=>.Qq 2003 (Mv (.tmp 3) (.const (.int .i64 1)) 9 3 (U6 (λ_=>0) 0 (Int.tmod p0 65536)) 1) λ_=>.row 2004 Q5 (Y6 (U6 (λ_=>0) 0 (Int.tmod p0 65536))) 1 true λx305=>.re 2004 (Jx.Oz 3 Q5 (U6 (λ_=>0) 0 (Int.tmod p0 65536)) 1 (Q0 (Int.tdiv p0 65536))) (.Qq 3001 (Yi (.tmp 3) 10 3 (U6 (U6 (λ_=>0) 0 (Int.tmod p0 65536)) 1 (Q0 (Int.tdiv p0 65536)))) λ_=>.Qq 3002 (HD (.tmp 2) (.tmp 10) 2 (λ_=>0) (U6 (U6 (λ_=>0) 0 (Int.tmod p0 65536)) 1 (Q0 (Int.tdiv p0 65536)))) λ_=>.done (U6 (U6 (λ_=>0) 0 (Int.tmod p0 65536)) 1 (Q0 (Int.tdiv p0 65536))))
def Sq(p0:Int):Sp ((Nat->Int)):=oF [0,2,3] Tryz.func128 [.i p0] (Qmb p0) (λr=>.agg (V3 r))
def Qkt(p0:List Int):TT ((Nat->Int)):=.Qq 1 (Xf 2) λ_=>.Qq 1001 (Xf 3) λ_=>.bind 1 (.lp (λ(l324:(Nat->Int)×Int)=>Ext.of .normal [(0,Sl 1 Q5 p0),(2,.ptr 2 0 0),(3,.ptr 3 0 0),(4,.i l324.2)] [] [BT.of 2 Q5 1 (Y6 (λ_=>0)) true,BT.of 3 Q5 1 (Y6 l324.1) true] (by rfl)) (λl324=>.br 0 (decide (l324.2 < (I3 Q5 p0))) (.br 0 (decide (l324.2 < 16)) (.Qq 6003 (Mv (.tmp 3) (.tmp 17) 18 3 l324.1 l324.2) λ_=>.row 6004 Q5 (Y6 l324.1) (0+l324.2.toNat) true λx325=>.row 6007 Q5 p0 l324.2.toNat (decide (0<=l324.2)) λx326=>.Qq 6010 (Mv (.tmp 3) (.tmp 16) 25 3 l324.1 l324.2) λ_=>.row 6011 Q5 (Y6 l324.1) (0+l324.2.toNat) true λx327=>.re 6011 (Jx.Oz 3 Q5 l324.1 (0+l324.2.toNat) (Q0 (x325+x326))) (.done (.inl ((U6 l324.1 (0+l324.2.toNat) (Q0 (x325+x326))),(Q0 (l324.2+1)))))) (.Qq 7005 (Mv (.tmp 3) (.tmp 29) 30 3 l324.1 (Q0 (l324.2 - 16))) λ_=>.row 7006 Q5 (Y6 l324.1) (0+(Q0 (l324.2 - 16)).toNat) true λx328=>.row 7009 Q5 p0 l324.2.toNat (decide (0<=l324.2)) λx329=>.Qq 7013 (Mv (.tmp 3) (.tmp 27) 38 3 l324.1 (Q0 (l324.2 - 16))) λ_=>.row 7014 Q5 (Y6 l324.1) (0+(Q0 (l324.2 - 16)).toNat) true λx330=>.re 7014 (Jx.Oz 3 Q5 l324.1 (0+(Q0 (l324.2 - 16)).toNat) (Q0 (x328+(Q0 ((38:Int) * x329))))) (.done (.inl ((U6 l324.1 (0+(Q0 (l324.2 - 16)).toNat) (Q0 (x328+(Q0 ((38:Int) * x329))))),(Q0 (l324.2+1))))))) (.done (.inr l324.1))) ((λ_=>0),0)) (λ(e331:(Nat->Int))=>Ext.of (.exit 0) [(2,.ptr 2 0 0),(3,.ptr 3 0 0)] [] [BT.of 2 Q5 1 (Y6 (λ_=>0)) true,BT.of 3 Q5 1 (Y6 e331) true] (by rfl)) (λe331=>.bind 1 (.lp (λ(l342:(Nat->Int)×Int)=>Ext.of .normal [(2,.ptr 2 0 0),(3,.ptr 3 0 0),(5,.i l342.2)] [] [BT.of 2 Q5 1 (Y6 (λ_=>0)) true,BT.of 3 Q5 1 (Y6 l342.1) true] (by rfl)) (λl342=>.br 0 (decide (l342.2 < 3)) (.bind 2 (.lp (λ(l346:(Nat->Int)×Int×Int)=>Ext.of .normal [(2,.ptr 2 0 0),(3,.ptr 3 0 0),(5,.i l342.2),(6,.i l346.2.1),(7,.i l346.2.2)] [] [BT.of 2 Q5 1 (Y6 (λ_=>0)) true,BT.of 3 Q5 1 (Y6 l346.1) true] (by rfl)) (λl346=>.br 0 (decide (l346.2.2 < 16)) (.Qq 15003 (Mv (.tmp 3) (.tmp 48) 49 3 l346.1 l346.2.2) λ_=>.row 15004 Q5 (Y6 l346.1) (0+l346.2.2.toNat) true λx347=>.Qq 16004 (Mv (.tmp 3) (.tmp 52) 55 3 l346.1 l346.2.2) λ_=>.row 16005 Q5 (Y6 l346.1) (0+l346.2.2.toNat) true λx348=>.re 16005 (Jx.Oz 3 Q5 l346.1 (0+l346.2.2.toNat) (Int.tmod (Q0 (l346.2.1+x347)) 65536)) (.done (.inl ((U6 l346.1 (0+l346.2.2.toNat) (Int.tmod (Q0 (l346.2.1+x347)) 65536)),(Q0 (Int.tdiv (Q0 (l346.2.1+x347)) 65536)),(Q0 (l346.2.2+1)))))) (.done (.inr (l346.1,l346.2.1)))) (l342.1,0,0)) (λ(e349:(Nat->Int)×Int)=>Ext.of (.exit 4) [(2,.ptr 2 0 0),(3,.ptr 3 0 0),(5,.i l342.2),(6,.i e349.2)] [] [BT.of 2 Q5 1 (Y6 (λ_=>0)) true,BT.of 3 Q5 1 (Y6 e349.1) true] (by rfl)) (λe349=>.Qq 18001 (Mv (.tmp 3) (.const (.int .i64 0)) 58 3 e349.1 0) λ_=>.row 18002 Q5 (Y6 e349.1) 0 true λx350=>.Qq 18006 (Mv (.tmp 3) (.const (.int .i64 0)) 63 3 e349.1 0) λ_=>.row 18007 Q5 (Y6 e349.1) 0 true λx351=>.re 18007 (Jx.Oz 3 Q5 e349.1 0 (Q0 (x350+(Q0 ((38:Int) * e349.2))))) (.done (.inl ((U6 e349.1 0 (Q0 (x350+(Q0 ((38:Int) * e349.2))))),(Q0 (l342.2+1))))))) (.done (.inr l342.1))) (e331,0)) (λ(e352:(Nat->Int))=>Ext.of (.exit 2) [(2,.ptr 2 0 0),(3,.ptr 3 0 0)] [] [BT.of 2 Q5 1 (Y6 (λ_=>0)) true,BT.of 3 Q5 1 (Y6 e352) true] (by rfl)) (λe352=>.Qq 19001 (Yi (.tmp 3) 64 3 e352) λ_=>.Qq 19002 (HD (.tmp 2) (.tmp 64) 2 (λ_=>0) e352) λ_=>.done e352))
def TZ(p0:List Int):Sp ((Nat->Int)):=oF [0,2,3,4,5,6,7,11,15,40,44] Tryz.func187 [Sl 1 Q5 p0] (Qkt p0) (λr=>.agg (V3 r))
def Qms(p0 p1:Nat->Int):TT ((Nat->Int)):=.Qq 1 (Qh.Dl (ty:=Q5) 191 (.tmp 0) 2 (Y6 p0)) λ_=>.Qq 2 (Qh.Dl (ty:=Q5) 191 (.tmp 1) 3 (Y6 p1)) λ_=>.Qq 3 (Xf 4) λ_=>.Qq 1001 (Qh.Ug (ty:=Q5) (t:=36) (e:=3) (k:=.i64) (.const (.int .i64 16)) (.const (.int .i64 16)) 7 16 8) λ_=>.bind 1 (.lp (λ(l315:(List Int)×Int)=>Ext.of .normal [(2,.ptr 2 0 0),(3,.ptr 3 0 0),(4,.ptr 4 0 0),(5,.ref 7 0 16),(6,.i l315.2)] [] [BT.of 2 Q5 1 (Y6 p0) true,BT.of 3 Q5 1 (Y6 p1) true,BT.of 4 Q5 1 (Y6 (λ_=>0)) true,Bt 7 Q5 1 l315.1] (by rfl)) (λl315=>.br 0 (decide (l315.2 < 16)) (.Qq 5004 (Mv (.tmp 2) (.tmp 14) 15 2 p0 l315.2) λ_=>.row 5005 Q5 (Y6 p0) (0+l315.2.toNat) true λx316=>.Qq 5007 (Mv (.tmp 3) (.tmp 17) 18 3 p1 l315.2) λ_=>.row 5008 Q5 (Y6 p1) (0+l315.2.toNat) true λx317=>.Ql 5010 (bD l315.2 16) (.row 5011 Q5 l315.1 (0+l315.2.toNat) true λx318=>.re 5011 (Jx.put 7 1 Q5 l315.1 (0+l315.2.toNat) (Q0 (x316+x317))) (.done (.inl ((l315.1.set (0+l315.2.toNat) (Q0 (x316+x317))),(Q0 (l315.2+1))))))) (.done (.inr l315.1))) ((List.replicate 16 (0:Int)),0)) (λ(e319:(List Int))=>Ext.of (.exit 0) [(4,.ptr 4 0 0),(5,.ref 7 0 16)] [] [BT.of 4 Q5 1 (Y6 (λ_=>0)) true,Bt 7 Q5 1 e319] (by rfl)) (λe319=>.view 6002 (TZ (e319.take 16)) [(Zp.part 7 Q5 e319 16)] λr353=>.Qq 6003 (HD (.tmp 4) (.tmp 23) 4 (λ_=>0) r353) λ_=>.done r353)
def PV(p0 p1:Nat->Int):Sp ((Nat->Int)):=oF [0,1,2,3,4,5,6,9] Tryz.func129 [.agg (V3 p0),.agg (V3 p1)] (Qms p0 p1) (λr=>.agg (V3 r))
def Qmp(p0 p1:Nat->Int):TT ((Nat->Int)):=.Qq 1 (Qh.Dl (ty:=Q5) 191 (.tmp 0) 2 (Y6 p0)) λ_=>.Qq 2 (Qh.Dl (ty:=Q5) 191 (.tmp 1) 3 (Y6 p1)) λ_=>.Qq 3 (Xf 4) λ_=>.Qq 1001 (Qh.Ug (ty:=Q5) (t:=36) (e:=3) (k:=.i64) (.const (.int .i64 16)) (.const (.int .i64 16)) 7 16 8) λ_=>.bind 1 (.lp (λ(l359:(List Int)×Int)=>Ext.of .normal [(2,.ptr 2 0 0),(3,.ptr 3 0 0),(4,.ptr 4 0 0),(5,.ref 7 0 16),(6,.i l359.2)] [] [BT.of 2 Q5 1 (Y6 p0) true,BT.of 3 Q5 1 (Y6 p1) true,BT.of 4 Q5 1 (Y6 (λ_=>0)) true,Bt 7 Q5 1 l359.1] (by rfl)) (λl359=>.br 0 (decide (l359.2 < 16)) (.Qq 5004 (Mv (.tmp 2) (.tmp 14) 15 2 p0 l359.2) λ_=>.row 5005 Q5 (Y6 p0) (0+l359.2.toNat) true λx360=>.Qq 5007 (Mv (.tmp 3) (.tmp 17) 18 3 p1 l359.2) λ_=>.row 5008 Q5 (Y6 p1) (0+l359.2.toNat) true λx361=>.Ql 5011 (bD l359.2 16) (.row 5012 Q5 l359.1 (0+l359.2.toNat) true λx362=>.re 5012 (Jx.put 7 1 Q5 l359.1 (0+l359.2.toNat) (Q0 ((Q0 (x360 - x361))+131070))) (.done (.inl ((l359.1.set (0+l359.2.toNat) (Q0 ((Q0 (x360 - x361))+131070))),(Q0 (l359.2+1))))))) (.done (.inr l359.1))) ((List.replicate 16 (0:Int)),0)) (λ(e363:(List Int))=>Ext.of (.exit 0) [(4,.ptr 4 0 0),(5,.ref 7 0 16)] [] [BT.of 4 Q5 1 (Y6 (λ_=>0)) true,Bt 7 Q5 1 e363] (by rfl)) (λe363=>.row 6004 Q5 e363 0 true λx364=>.row 6007 Q5 e363 0 true λx365=>.re 6007 (Jx.put 7 1 Q5 e363 0 (Q0 (x364 - 74))) (.view 7002 (TZ ((e363.set 0 (Q0 (x364 - 74))).take 16)) [(Zp.part 7 Q5 (e363.set 0 (Q0 (x364 - 74))) 16)] λr366=>.Qq 7003 (HD (.tmp 4) (.tmp 30) 4 (λ_=>0) r366) λ_=>.done r366))
def PT(p0 p1:Nat->Int):Sp ((Nat->Int)):=oF [0,1,2,3,4,5,6,9] Tryz.func130 [.agg (V3 p0),.agg (V3 p1)] (Qmp p0 p1) (λr=>.agg (V3 r))
def Qmr(p0 p1:Nat->Int):TT ((Nat->Int)):=.Qq 1 (Qh.Dl (ty:=Q5) 191 (.tmp 0) 2 (Y6 p0)) λ_=>.Qq 2 (Qh.Dl (ty:=Q5) 191 (.tmp 1) 3 (Y6 p1)) λ_=>.Qq 3 (Xf 4) λ_=>.Qq 1001 (Qh.Ug (ty:=Q5) (t:=36) (e:=3) (k:=.i64) (.const (.int .i64 31)) (.const (.int .i64 31)) 8 31 8) λ_=>.bind 1 (.lp (λ(l380:(List Int)×Int)=>Ext.of .normal [(2,.ptr 2 0 0),(3,.ptr 3 0 0),(4,.ptr 4 0 0),(5,.ref 8 0 31),(6,.i l380.2)] [] [BT.of 2 Q5 1 (Y6 p0) true,BT.of 3 Q5 1 (Y6 p1) true,BT.of 4 Q5 1 (Y6 (λ_=>0)) true,Bt 8 Q5 1 l380.1] (by rfl)) (λl380=>.br 0 (decide (l380.2 < 16)) (.bind 2 (.lp (λ(l386:(List Int)×Int)=>Ext.of .normal [(2,.ptr 2 0 0),(3,.ptr 3 0 0),(4,.ptr 4 0 0),(5,.ref 8 0 31),(6,.i l380.2),(7,.i l386.2)] [] [BT.of 2 Q5 1 (Y6 p0) true,BT.of 3 Q5 1 (Y6 p1) true,BT.of 4 Q5 1 (Y6 (λ_=>0)) true,Bt 8 Q5 1 l386.1] (by rfl)) (λl386=>.br 0 (decide (l386.2 < 16)) (.Ql 8009 (decide (0<=(Q0 (l380.2+l386.2)))&&decide ((Q0 (l380.2+l386.2)) < (31:Int))) (.row 8010 Q5 l386.1 (0+(Q0 (l380.2+l386.2)).toNat) true λx387=>.Qq 8012 (Mv (.tmp 2) (.tmp 27) 28 2 p0 l380.2) λ_=>.row 8013 Q5 (Y6 p0) (0+l380.2.toNat) true λx388=>.Qq 8015 (Mv (.tmp 3) (.tmp 30) 31 3 p1 l386.2) λ_=>.row 8016 Q5 (Y6 p1) (0+l386.2.toNat) true λx389=>.Ql 8019 (decide (0<=(Q0 (l380.2+l386.2)))&&decide ((Q0 (l380.2+l386.2)) < (31:Int))) (.row 8020 Q5 l386.1 (0+(Q0 (l380.2+l386.2)).toNat) true λx390=>.re 8020 (Jx.put 8 1 Q5 l386.1 (0+(Q0 (l380.2+l386.2)).toNat) (Q0 (x387+(Q0 (x388 * x389))))) (.done (.inl ((l386.1.set (0+(Q0 (l380.2+l386.2)).toNat) (Q0 (x387+(Q0 (x388 * x389))))),(Q0 (l386.2+1)))))))) (.done (.inr l386.1))) (l380.1,0)) (λ(e391:(List Int))=>Ext.of (.exit 2) [(2,.ptr 2 0 0),(3,.ptr 3 0 0),(4,.ptr 4 0 0),(5,.ref 8 0 31),(6,.i l380.2)] [] [BT.of 2 Q5 1 (Y6 p0) true,BT.of 3 Q5 1 (Y6 p1) true,BT.of 4 Q5 1 (Y6 (λ_=>0)) true,Bt 8 Q5 1 e391] (by rfl)) (λe391=>.done (.inl (e391,(Q0 (l380.2+1)))))) (.done (.inr l380.1))) ((List.replicate 31 (0:Int)),0)) (λ(e392:(List Int))=>Ext.of (.exit 0) [(4,.ptr 4 0 0),(5,.ref 8 0 31)] [] [BT.of 4 Q5 1 (Y6 (λ_=>0)) true,Bt 8 Q5 1 e392] (by rfl)) (λe392=>.view 9002 (TZ (e392.take 31)) [(Zp.part 8 Q5 e392 31)] λr393=>.Qq 9003 (HD (.tmp 4) (.tmp 37) 4 (λ_=>0) r393) λ_=>.done r393)
def Mh(p0 p1:Nat->Int):Sp ((Nat->Int)):=oF [0,1,2,3,4,5,6,7,10,14] Tryz.func131 [.agg (V3 p0),.agg (V3 p1)] (Qmr p0 p1) (λr=>.agg (V3 r))
def Qmg(p0:Nat->Int):TT ((Nat->Int)):=.Qq 1 (Qh.Dl (ty:=Q5) 191 (.tmp 0) 1 (Y6 p0)) λ_=>.Qq 2 (Xf 2) λ_=>.cl 1001 (Sq 1) λr356=>.Qq 1002 (Xf 3) λ_=>.Qq 1003 (HD (.tmp 3) (.tmp 5) 3 (λ_=>0) r356) λ_=>.bind 1 (.lp (λ(l360:(Nat->Int)×Int)=>Ext.of .normal [(1,.ptr 1 0 0),(2,.ptr 2 0 0),(3,.ptr 3 0 0),(4,.i l360.2)] [] [BT.of 1 Q5 1 (Y6 p0) true,BT.of 2 Q5 1 (Y6 (λ_=>0)) true,BT.of 3 Q5 1 (Y6 l360.1) true] (by rfl)) (λl360=>.br 0 (decide ((0:Int)<=l360.2)) (.Qq 5001 (Yi (.tmp 3) 10 3 l360.1) λ_=>.Qq 5002 (Yi (.tmp 3) 11 3 l360.1) λ_=>.cl 5003 (Mh l360.1 l360.1) λr361=>.Qq 5004 (HD (.tmp 3) (.tmp 12) 3 l360.1 r361) λ_=>.Zz 6 [18] (.an 6004 (l360.2 != 2) (.done (l360.2 != 4))) zm λc362=>.br 0 c362 (.Qq 7001 (Yi (.tmp 3) 19 3 r361) λ_=>.Qq 7002 (Yi (.tmp 1) 20 1 p0) λ_=>.cl 7003 (Mh r361 p0) λr363=>.Qq 7004 (HD (.tmp 3) (.tmp 21) 3 r361 r363) λ_=>.done (.inl (r363,(Q0 (l360.2 - 1))))) (.done (.inl (r361,(Q0 (l360.2 - 1)))))) (.done (.inr l360.1))) (r356,254)) (λ(e364:(Nat->Int))=>Ext.of (.exit 0) [(2,.ptr 2 0 0),(3,.ptr 3 0 0)] [] [BT.of 2 Q5 1 (Y6 (λ_=>0)) true,BT.of 3 Q5 1 (Y6 e364) true] (by rfl)) (λe364=>.Qq 8001 (Yi (.tmp 3) 22 3 e364) λ_=>.Qq 8002 (HD (.tmp 2) (.tmp 22) 2 (λ_=>0) e364) λ_=>.done e364)
def vB(p0:Nat->Int):Sp ((Nat->Int)):=oF [0,1,2,3,4,7,18] Tryz.func133 [.agg (V3 p0)] (Qmg p0) (λr=>.agg (V3 r))
def Qkc(p0:Nat->Int):TT (Bool):=.Qq 1 (Qh.Dl (ty:=Q5) 191 (.tmp 0) 1 (Y6 p0)) λ_=>.QC 1 (.lp (λ(l371:Int)=>Ext.of .normal [(1,.ptr 1 0 0),(2,.bool false),(3,.i l371)] [] [BT.of 1 Q5 1 (Y6 p0) true] (by rfl)) (λl371=>.br 0 (decide ((1:Int)<=l371)) (.bind 1 (.br 0 (l371==15) (.done 32767) (.done 65535)) (λ(e372:Int)=>Ext.of .normal [(1,.ptr 1 0 0),(2,.bool false),(3,.i l371),(4,.i e372)] [] [BT.of 1 Q5 1 (Y6 p0) true] (by rfl)) (λe372=>.Qq 7002 (Mv (.tmp 1) (.tmp 11) 12 1 p0 l371) λ_=>.row 7003 Q5 (Y6 p0) (0+l371.toNat) true λx373=>.br 0 (x373 != e372) (.Qq 8002 (Mv (.tmp 1) (.tmp 16) 17 1 p0 l371) λ_=>.row 8003 Q5 (Y6 p0) (0+l371.toNat) true λx374=>.done (.inr (.inl (decide (x374 < e372))))) (.done (.inl (Q0 (l371 - 1)))))) (.done (.inr (.inr ())))) 15) (λ(e375:Bool)=>Ext.of .ret [(1,.ptr 1 0 0),(2,.bool e375)] [] [BT.of 1 Q5 1 (Y6 p0) true] (by rfl)) (λ(e376:Unit)=>Ext.of (.exit 0) [(1,.ptr 1 0 0),(2,.bool false)] [] [BT.of 1 Q5 1 (Y6 p0) true] (by rfl)) (λe375=>.done e375) (λe376=>.Qq 9001 (Mv (.tmp 1) (.const (.int .i64 0)) 21 1 p0 0) λ_=>.row 9002 Q5 (Y6 p0) 0 true λx377=>.done (decide (x377 < 65517)))
def tB(p0:Nat->Int):Sp (Bool):=oF [0,1,2,3,4,6,10,15] Tryz.func188 [.agg (V3 p0)] (Qkc p0) (λr=>.bool r)
def Qmn(p0:Nat->Int):TT (ze):=.Qq 1 (Qh.Dl (ty:=Q5) 191 (.tmp 0) 1 (Y6 p0)) λ_=>.bind 1 (.lp (λ(l380:(Nat->Int))=>Ext.of .normal [(1,.ptr 1 0 0),(2,.str zg)] [] [BT.of 1 Q5 1 (Y6 l380) true] (by rfl)) (λl380=>.Qq 1001 (Yi (.tmp 1) 7 1 l380) λ_=>.cl 1002 (tB l380) λr381=>.br 0 (!r381) (.bind 2 (.lp (λ(l385:(Nat->Int)×Int×Int)=>Ext.of .normal [(1,.ptr 1 0 0),(2,.str zg),(3,.i l385.2.1),(4,.i l385.2.2)] [] [BT.of 1 Q5 1 (Y6 l385.1) true] (by rfl)) (λl385=>.br 0 (decide (l385.2.2 < 16)) (.Qq 6003 (Mv (.tmp 1) (.tmp 15) 16 1 l385.1 l385.2.2) λ_=>.row 6004 Q5 (Y6 l385.1) (0+l385.2.2.toNat) true λx386=>.Qq 7004 (Mv (.tmp 1) (.tmp 19) 22 1 l385.1 l385.2.2) λ_=>.row 7005 Q5 (Y6 l385.1) (0+l385.2.2.toNat) true λx387=>.re 7005 (Jx.Oz 1 Q5 l385.1 (0+l385.2.2.toNat) (Int.tmod (Q0 (l385.2.1+x386)) 65536)) (.done (.inl ((U6 l385.1 (0+l385.2.2.toNat) (Int.tmod (Q0 (l385.2.1+x386)) 65536)),(Q0 (Int.tdiv (Q0 (l385.2.1+x386)) 65536)),(Q0 (l385.2.2+1)))))) (.done (.inr (l385.1,l385.2.1)))) (l380,19,0)) (λ(e388:(Nat->Int)×Int)=>Ext.of (.exit 2) [(1,.ptr 1 0 0),(2,.str zg),(3,.i e388.2)] [] [BT.of 1 Q5 1 (Y6 e388.1) true] (by rfl)) (λe388=>.Qq 9001 (Mv (.tmp 1) (.const (.int .i64 15)) 25 1 e388.1 15) λ_=>.row 9002 Q5 (Y6 e388.1) 15 true λx389=>.Qq 9004 (Mv (.tmp 1) (.const (.int .i64 15)) 28 1 e388.1 15) λ_=>.row 9005 Q5 (Y6 e388.1) 15 true λx390=>.re 9005 (Jx.Oz 1 Q5 e388.1 15 (Q0 (x389 - 32768))) (.br 0 (decide ((0:Int) < e388.2)) (.Qq 11001 (Mv (.tmp 1) (.const (.int .i64 15)) 31 1 (U6 e388.1 15 (Q0 (x389 - 32768))) 15) λ_=>.row 11002 Q5 (Y6 (U6 e388.1 15 (Q0 (x389 - 32768)))) 15 true λx391=>.Qq 11004 (Mv (.tmp 1) (.const (.int .i64 15)) 34 1 (U6 e388.1 15 (Q0 (x389 - 32768))) 15) λ_=>.row 11005 Q5 (Y6 (U6 e388.1 15 (Q0 (x389 - 32768)))) 15 true λx392=>.re 11005 (Jx.Oz 1 Q5 (U6 e388.1 15 (Q0 (x389 - 32768))) 15 (Q0 (x391+65536))) (.done (.inl (U6 (U6 e388.1 15 (Q0 (x389 - 32768))) 15 (Q0 (x391+65536)))))) (.done (.inl (U6 e388.1 15 (Q0 (x389 - 32768)))))))) (.done (.inr l380))) p0) (λ(e393:(Nat->Int))=>Ext.of (.exit 0) [(1,.ptr 1 0 0),(2,.str zg)] [] [BT.of 1 Q5 1 (Y6 e393) true] (by rfl)) (λe393=>.gh 1 (.XO 600010 5 1) (.bind 0 (.lp (λ(l397:(List Int)×Int)=>Ext.of .normal [(1,.ptr 1 0 0),(2,.str zg),(5,Rf 600010 l397.1),(6,.i l397.2)] [] [BT.of 1 Q5 1 (Y6 e393) true,Bt 600010 Y4 1 l397.1] (by rfl)) (λl397=>.br 0 (decide (l397.2 < 16)) (.Qq 16003 (Mv (.tmp 1) (.tmp 40) 41 1 e393 l397.2) λ_=>.row 16004 Q5 (Y6 e393) (0+l397.2.toNat) true λx398=>.Qq 16008 (Mv (.tmp 1) (.tmp 45) 46 1 e393 l397.2) λ_=>.row 16009 Q5 (Y6 e393) (0+l397.2.toNat) true λx399=>.app 16013 Y4 l397.1 [(Qk (Int.tmod x398 256)),(Qk (Q0 (Int.tdiv x399 256)))] 1 false (by intro h;cases h) (.gh 0 (.drop [600010]) (.gh 0 (.Qs 51 600010) (.done (.inl ((l397.1++[(Qk (Int.tmod x398 256)),(Qk (Q0 (Int.tdiv x399 256)))]),(Q0 (l397.2+1)))))))) (.done (.inr l397.1))) ([],0)) (λ(e400:(List Int))=>Ext.of (.exit 4) [(2,.str zg),(5,Rf 600010 e400)] [] [Bt 600010 Y4 1 e400] (by rfl)) (λe400=>.Qq 17002 (Qh.JU (ty:=Y4) (s:=57) (t:=9) (e:=5) (.tmp 52) 53 600010 e400 e400.length (hn:=(by simp))) λ_=>.done (strOfNums e400))))
def vC(p0:Nat->Int):Sp (ze):=oF [0,1,2,3,4,5,6,9,11,30,36] Tryz.func132 [.agg (V3 p0)] (Qmn p0) (λr=>.str r)
def g70(p0 p1:ze):TT (ze):=.cl 1002 (vV p0) λr296=>.cl 2002 (vT p1) λr304=>.Qq 2003 (Xf 6) λ_=>.Qq 2004 (HD (.tmp 6) (.tmp 23) 6 (λ_=>0) r304) λ_=>.cl 3001 (Sq 1) λr306=>.cl 3002 (Sq 0) λr307=>.Qq 3003 (Yi (.tmp 6) 26 6 r304) λ_=>.cl 3004 (Sq 1) λr308=>.Qq 3005 (Xf 7) λ_=>.Qq 3006 (Xf 8) λ_=>.Qq 3007 (Xf 9) λ_=>.Qq 3008 (Xf 10) λ_=>.Qq 3009 (HD (.tmp 7) (.tmp 24) 7 (λ_=>0) r306) λ_=>.Qq 3010 (HD (.tmp 8) (.tmp 25) 8 (λ_=>0) r307) λ_=>.Qq 3011 (HD (.tmp 9) (.tmp 26) 9 (λ_=>0) r304) λ_=>.Qq 3012 (HD (.tmp 10) (.tmp 27) 10 (λ_=>0) r308) λ_=>.bind 1 (.lp (λ(l332:(Nat->Int)×(Nat->Int)×(Nat->Int)×(Nat->Int)×Int)=>Ext.of .normal [(4,.str zg),(5,.str r296),(6,.ptr 6 0 0),(7,.ptr 7 0 0),(8,.ptr 8 0 0),(9,.ptr 9 0 0),(10,.ptr 10 0 0),(11,.i l332.q)] [] [BT.of 6 Q5 1 (Y6 r304) true,BT.of 7 Q5 1 (Y6 l332.1) true,BT.of 8 Q5 1 (Y6 l332.2.1) true,BT.of 9 Q5 1 (Y6 l332.2.2.1) true,BT.of 10 Q5 1 (Y6 l332.2.2.2.1) true] (by rfl)) (λl332=>.br 0 (decide ((0:Int)<=l332.q)) (.Ql 7004 (decide (0<=(Q0 (Int.tdiv l332.q 8))/\(Q0 (Int.tdiv l332.q 8)) < (r296.size:Int))) (.Ql 7008 (decide ((0:Int)<=(Z2 (Int.tmod l332.q 8)))) (.bind 0 (.br 0 ((U0 .u8 (Z3 .u8 (QQ r296 (Q0 (Int.tdiv l332.q 8))) (Z2 (Int.tmod l332.q 8))) 1)==1) (.Qq 9001 (Yi (.tmp 9) 43 9 l332.2.2.1) λ_=>.Qq 9002 (Yi (.tmp 10) 44 10 l332.2.2.2.1) λ_=>.Qq 9003 (Yi (.tmp 7) 45 7 l332.1) λ_=>.Qq 9004 (Yi (.tmp 8) 46 8 l332.2.1) λ_=>.Qq 9005 (HD (.tmp 7) (.tmp 43) 7 l332.1 l332.2.2.1) λ_=>.Qq 9006 (HD (.tmp 8) (.tmp 44) 8 l332.2.1 l332.2.2.2.1) λ_=>.Qq 9007 (HD (.tmp 9) (.tmp 45) 9 l332.2.2.1 l332.1) λ_=>.Qq 9008 (HD (.tmp 10) (.tmp 46) 10 l332.2.2.2.1 l332.2.1) λ_=>.done (l332.2.2.1,l332.2.2.2.1,l332.1,l332.2.1)) (.done (l332.1,l332.2.1,l332.2.2.1,l332.2.2.2.1))) (λ(e333:(Nat->Int)×(Nat->Int)×(Nat->Int)×(Nat->Int))=>Ext.of .normal [(4,.str zg),(5,.str r296),(6,.ptr 6 0 0),(7,.ptr 7 0 0),(8,.ptr 8 0 0),(9,.ptr 9 0 0),(10,.ptr 10 0 0),(11,.i l332.q),(12,.bool ((U0 .u8 (Z3 .u8 (QQ r296 (Q0 (Int.tdiv l332.q 8))) (Z2 (Int.tmod l332.q 8))) 1)==1))] [] [BT.of 6 Q5 1 (Y6 r304) true,BT.of 7 Q5 1 (Y6 e333.1) true,BT.of 8 Q5 1 (Y6 e333.2.1) true,BT.of 9 Q5 1 (Y6 e333.2.2.1) true,BT.of 10 Q5 1 (Y6 e333.2.2.2) true] (by rfl)) (λe333=>.Qq 10001 (Yi (.tmp 7) 47 7 e333.1) λ_=>.Qq 10002 (Yi (.tmp 8) 48 8 e333.2.1) λ_=>.cl 10003 (PV e333.1 e333.2.1) λr334=>.Qq 10004 (Yi (.tmp 7) 50 7 e333.1) λ_=>.Qq 10005 (Yi (.tmp 8) 51 8 e333.2.1) λ_=>.cl 10006 (PT e333.1 e333.2.1) λr335=>.Qq 10007 (Xf 13) λ_=>.Qq 10008 (Xf 14) λ_=>.Qq 10009 (HD (.tmp 13) (.tmp 49) 13 (λ_=>0) r334) λ_=>.Qq 10010 (HD (.tmp 14) (.tmp 52) 14 (λ_=>0) r335) λ_=>.Qq 11001 (Yi (.tmp 13) 53 13 r334) λ_=>.Qq 11002 (Yi (.tmp 13) 54 13 r334) λ_=>.cl 11003 (Mh r334 r334) λr336=>.Qq 11004 (Yi (.tmp 14) 56 14 r335) λ_=>.Qq 11005 (Yi (.tmp 14) 57 14 r335) λ_=>.cl 11006 (Mh r335 r335) λr337=>.Qq 11007 (Xf 15) λ_=>.Qq 11008 (Xf 16) λ_=>.Qq 11009 (HD (.tmp 15) (.tmp 55) 15 (λ_=>0) r336) λ_=>.Qq 11010 (HD (.tmp 16) (.tmp 58) 16 (λ_=>0) r337) λ_=>.Qq 12001 (Yi (.tmp 15) 59 15 r336) λ_=>.Qq 12002 (Yi (.tmp 16) 60 16 r337) λ_=>.cl 12003 (PT r336 r337) λr338=>.Qq 12004 (Xf 17) λ_=>.Qq 12005 (HD (.tmp 17) (.tmp 61) 17 (λ_=>0) r338) λ_=>.Qq 13001 (Yi (.tmp 9) 62 9 e333.2.2.1) λ_=>.Qq 13002 (Yi (.tmp 10) 63 10 e333.2.2.2) λ_=>.cl 13003 (PT e333.2.2.1 e333.2.2.2) λr339=>.Qq 13004 (Yi (.tmp 13) 65 13 r334) λ_=>.cl 13005 (Mh r339 r334) λr340=>.Qq 13006 (Yi (.tmp 9) 67 9 e333.2.2.1) λ_=>.Qq 13007 (Yi (.tmp 10) 68 10 e333.2.2.2) λ_=>.cl 13008 (PV e333.2.2.1 e333.2.2.2) λr341=>.Qq 13009 (Yi (.tmp 14) 70 14 r335) λ_=>.cl 13010 (Mh r341 r335) λr342=>.Qq 13011 (Xf 18) λ_=>.Qq 13012 (Xf 19) λ_=>.Qq 13013 (HD (.tmp 18) (.tmp 66) 18 (λ_=>0) r340) λ_=>.Qq 13014 (HD (.tmp 19) (.tmp 71) 19 (λ_=>0) r342) λ_=>.Qq 14001 (Yi (.tmp 15) 72 15 r336) λ_=>.Qq 14002 (Yi (.tmp 16) 73 16 r337) λ_=>.cl 14003 (Mh r336 r337) λr343=>.Qq 14004 (HD (.tmp 7) (.tmp 74) 7 e333.1 r343) λ_=>.Qq 15001 (Yi (.tmp 17) 75 17 r338) λ_=>.Qq 15002 (Yi (.tmp 15) 76 15 r336) λ_=>.cl 15003 (Sq 121665) λr344=>.Qq 15004 (Yi (.tmp 17) 78 17 r338) λ_=>.cl 15005 (Mh r344 r338) λr345=>.cl 15006 (PV r336 r345) λr346=>.cl 15007 (Mh r338 r346) λr347=>.Qq 15008 (HD (.tmp 8) (.tmp 81) 8 e333.2.1 r347) λ_=>.Qq 16001 (Yi (.tmp 18) 82 18 r340) λ_=>.Qq 16002 (Yi (.tmp 19) 83 19 r342) λ_=>.cl 16003 (PV r340 r342) λr348=>.Qq 16004 (Yi (.tmp 18) 85 18 r340) λ_=>.Qq 16005 (Yi (.tmp 19) 86 19 r342) λ_=>.cl 16006 (PV r340 r342) λr349=>.cl 16007 (Mh r348 r349) λr350=>.Qq 16008 (HD (.tmp 9) (.tmp 88) 9 e333.2.2.1 r350) λ_=>.Qq 17001 (Yi (.tmp 6) 89 6 r304) λ_=>.Qq 17002 (Yi (.tmp 18) 90 18 r340) λ_=>.Qq 17003 (Yi (.tmp 19) 91 19 r342) λ_=>.cl 17004 (PT r340 r342) λr351=>.Qq 17005 (Yi (.tmp 18) 93 18 r340) λ_=>.Qq 17006 (Yi (.tmp 19) 94 19 r342) λ_=>.cl 17007 (PT r340 r342) λr352=>.cl 17008 (Mh r351 r352) λr353=>.cl 17009 (Mh r304 r353) λr354=>.Qq 17010 (HD (.tmp 10) (.tmp 97) 10 e333.2.2.2 r354) λ_=>.br 0 ((U0 .u8 (Z3 .u8 (QQ r296 (Q0 (Int.tdiv l332.q 8))) (Z2 (Int.tmod l332.q 8))) 1)==1) (.Qq 19001 (Yi (.tmp 9) 99 9 r350) λ_=>.Qq 19002 (Yi (.tmp 10) 100 10 r354) λ_=>.Qq 19003 (Yi (.tmp 7) 101 7 r343) λ_=>.Qq 19004 (Yi (.tmp 8) 102 8 r347) λ_=>.Qq 19005 (HD (.tmp 7) (.tmp 99) 7 r343 r350) λ_=>.Qq 19006 (HD (.tmp 8) (.tmp 100) 8 r347 r354) λ_=>.Qq 19007 (HD (.tmp 9) (.tmp 101) 9 r350 r343) λ_=>.Qq 19008 (HD (.tmp 10) (.tmp 102) 10 r354 r347) λ_=>.done (.inl (r350,r354,r343,r347,(Q0 (l332.q - 1))))) (.done (.inl (r343,r347,r350,r354,(Q0 (l332.q - 1))))))))) (.done (.inr (l332.1,l332.2.1)))) (r306,r307,r304,r308,254)) (λ(e355:(Nat->Int)×(Nat->Int))=>Ext.of (.exit 0) [(4,.str zg),(7,.ptr 7 0 0),(8,.ptr 8 0 0)] [] [BT.of 7 Q5 1 (Y6 e355.1) true,BT.of 8 Q5 1 (Y6 e355.2) true] (by rfl)) (λe355=>.Qq 20001 (Yi (.tmp 7) 103 7 e355.1) λ_=>.Qq 20002 (Yi (.tmp 8) 104 8 e355.2) λ_=>.cl 20003 (vB e355.2) λr365=>.cl 20004 (Mh e355.1 r365) λr366=>.cl 20005 (vC r366) λr401=>.done r401)
def s70(p0 p1:ze):Sp (ze):=oF [0,1,4,5,6,7,8,9,10,11,12,13,14,15,16,17,18,19,29,42,98] Tryz.func70 [.str p0,.str p1] (g70 p0 p1) (λr=>.str r)
structure Z6 where
 fp:ze
 fH:ze
 fC:Int
 fB:Int
 fP:Int
def Qmd(p0:Int):TT (Bool):=.Zz 1 [2] (.br 1004 (decide ((97:Int)<=p0)) (.oR 1008 (decide (p0<=122)) (.br 1011 (decide ((65:Int)<=p0)) (.oR 1016 (decide (p0<=90)) (.br 1019 (decide ((48:Int)<=p0)) (.oR 1024 (decide (p0<=57)) (.oR 1028 (p0==46) (.done (p0==45)))) (.oR 1028 (p0==46) (.done (p0==45))))) (.br 1019 (decide ((48:Int)<=p0)) (.oR 1024 (decide (p0<=57)) (.oR 1028 (p0==46) (.done (p0==45)))) (.oR 1028 (p0==46) (.done (p0==45)))))) (.br 1011 (decide ((65:Int)<=p0)) (.oR 1016 (decide (p0<=90)) (.br 1019 (decide ((48:Int)<=p0)) (.oR 1024 (decide (p0<=57)) (.oR 1028 (p0==46) (.done (p0==45)))) (.oR 1028 (p0==46) (.done (p0==45))))) (.br 1019 (decide ((48:Int)<=p0)) (.oR 1024 (decide (p0<=57)) (.oR 1028 (p0==46) (.done (p0==45)))) (.oR 1028 (p0==46) (.done (p0==45)))))) zm λc402=>.done c402
def oT(p0:Int):Sp (Bool):=oF [0,2] Tryz.func151 [.int .u8 p0] (Qmd p0) (λr=>.bool r)
def Qk4(p0:ze)(p1:Int):TT (Int):=.Qq 1003 (Qh.Qik 263 (.tmp 5) (.tmp 6) #[9,5] 7 p0 p1 Tryz.func263 (by kernel_rfl) (by kernel_rfl) (by kernel_rfl) (by kernel_rfl)) λ_=>.done (firstIdx p0 (p1).toNat.toUInt8)
def tY(p0:ze)(p1:Int):Sp (Int):=oF [0,1,4] Tryz.func254 [.str p0,.int .u8 p1] (Qk4 p0 p1) (λr=>.int .i64 r)
def Qkx(p0:ze)(p1:Int):TT (Int):=.cl 1003 (tY p0 p1) λr403=>.done r403
def PR(p0:ze)(p1:Int):Sp (Int):=oF [0,1,4] Tryz.func220 [.str p0,.int .u8 p1] (Qkx p0 p1) (λr=>.int .i64 r)
noncomputable def RB:Code:=(cB (cR (cL (cR (cR (Tryz.f91.body.getD .skip))))))
def VR:Code:=MF RB
def Og:List (Nat×V):=[(1,.ptr 1000001 0 0),(2,.ptr 1000002 0 0),(24,.fn 206 [] [.ptr 1700070 0 0])]
def VaL(b:Z6)(s:ze):List (Nat×Qd):=[(1000001,⟨5,true,[[.str b.fp,.str b.fH,.int .i64 b.fC,.int .i64 b.fB,.int .i64 b.fP]]⟩),(1000002,⟨1,true,[[.bool false]]⟩),(1700070,⟨1,true,[[.str s]]⟩)]
def Xo(ts:List (Nat×V))(b:Z6)(s:ze):Ext:=Ext.of .normal ts (VaL b s) [] (by rfl)
def Vb(b:Z6)(s:ze)(v:Int):TT (Unit):=
 .cl 5002 (oT v) λr404=>
 .br 0 (!r404)
 (.fail)
 (.done ())
theorem Qxv(b:Z6)(s:ze)(v:Int):Y1 Tryz.prog GG [1,2,3,28] 60 (I1 RB) (Xo [(1,.ptr 1000001 0 0),(2,.ptr 1000002 0 0),(3,.int .u8 v)] b s) (Vb b s v) (λ(_:Unit)=>Xo [] b s):=by unfold Y1;kernel_rfl
def Vs(b:Z6)(s:ze)(v:Int):TT (Unit):=
 .cl 5002 (oT v) λr405=>
 .br 0 (!r405)
 (.done ())
 (.fail)
theorem Qxt(b:Z6)(s:ze)(v:Int):Y1 Tryz.prog GG [1,2,3,28] 60 (I1 RB) (Xo [(1,.ptr 1000001 0 0),(2,.ptr 1000002 0 0),(3,.int .u8 v)] b s) (Vs b s v) (λ(_:Unit)=>Ext.of .ret [] (VaL b s) [] (by rfl)):=by unfold Y1;kernel_rfl
noncomputable def Pq:Code:=(cB (cR (cL (cR (cR (cR (cR (Tryz.f174.body.getD .skip))))))))
def VC:Code:=MF Pq
def Ot:List (Nat×V):=[(2,.ptr 1000002 0 0),(5,.ptr 1000005 0 0),(20,.fn 206 [] [.ptr 1700070 0 0])]
def FiL(y:Int)(s:ze):List (Nat×Qd):=[(1000002,⟨1,true,[[.bool false]]⟩),(1000005,⟨1,true,[[.int .i64 y]]⟩),(1700070,⟨1,true,[[.str s]]⟩)]
def Xl(ts:List (Nat×V))(y:Int)(s:ze):Ext:=Ext.of .normal ts (FiL y s) [] (by rfl)
def Vv(y:Int)(s:ze)(v:Int):TT (Int):=
 .Zz 7 [38]
 (.br 7005 ((Int.tmod y 3)==2)
  (.br 7009 (v != 58)
   (.done true)
   (.br 7013 (decide ((Int.tmod y 3) < 2))
    (.cl 7014 (PR (bs [48,49,50,51,52,53,54,55,56,57,65,66,67,68,69,70]) v) λr406=>
     .done (decide (r406 < 0)))
    (.done false)))
  (.br 7013 (decide ((Int.tmod y 3) < 2))
   (.cl 7014 (PR (bs [48,49,50,51,52,53,54,55,56,57,65,66,67,68,69,70]) v) λr407=>
    .done (decide (r407 < 0)))
   (.done false)))
 zm λc408=>
 .br 0 c408
 (.fail)
 (.done (Q0 (y+1)))
theorem Qad(y:Int)(s:ze)(v:Int):Y1 Tryz.prog GG [2,5,6,38] 41 (I1 Pq) (Xl [(2,.ptr 1000002 0 0),(5,.ptr 1000005 0 0),(6,.int .u8 v)] y s) (Vv y s v) (λ(r:Int)=>Xl [] r s):=by unfold Y1;kernel_rfl
def Vt(y:Int)(s:ze)(v:Int):TT (Unit):=
 .Zz 7 [38]
 (.br 7005 ((Int.tmod y 3)==2)
  (.br 7009 (v != 58)
   (.done true)
   (.br 7013 (decide ((Int.tmod y 3) < 2))
    (.cl 7014 (PR (bs [48,49,50,51,52,53,54,55,56,57,65,66,67,68,69,70]) v) λr409=>
     .done (decide (r409 < 0)))
    (.done false)))
  (.br 7013 (decide ((Int.tmod y 3) < 2))
   (.cl 7014 (PR (bs [48,49,50,51,52,53,54,55,56,57,65,66,67,68,69,70]) v) λr410=>
    .done (decide (r410 < 0)))
   (.done false)))
 zm λc411=>
 .br 0 c411
 (.done ())
 (.fail)
theorem Qae(y:Int)(s:ze)(v:Int):Y1 Tryz.prog GG [2,5,6,38] 41 (I1 Pq) (Xl [(2,.ptr 1000002 0 0),(5,.ptr 1000005 0 0),(6,.int .u8 v)] y s) (Vt y s v) (λ(_:Unit)=>Ext.of .ret [] (FiL y s) [] (by rfl)):=by unfold Y1;kernel_rfl
def Pm(b:Z6)(s:ze):List (Nat×Qd):=(Xo [] b s).bs
theorem Qwd(b:Z6)(s:ze)(v:Int):Y1 Tryz.prog GG [1,2,3,24,25] 60 VR (Xo ((25,.int .u8 v) :: Og) b s) (.done ():TT Unit) (λ_=>Xo [(1,.ptr 1000001 0 0),(2,.ptr 1000002 0 0),(3,.int .u8 v)] b s):=by unfold Y1;kernel_rfl
theorem Qen(b:Z6)(s:ze)(v:Int):(Xo ((25,.int .u8 v) :: Og) b s |>.D 60).st=Kl (E3 60 (Zk Og) (Qm (Pm b s))) ([25].zip [.int .u8 v]):=by
 rw[H9 (by rfl)];exact(Uh 60 Og _ 25 (.int .u8 v)).symm
theorem Qxi(b:Z6)(s:ze)(v:Int){r:Unit}(hb:(Vb b s v).run=some r) :
  JB Tryz.prog GG 60 (Zk Og) [25] VR (I1 RB) (Qm (Pm b s)) [.int .u8 v] (λe b'=>e=.normal/\b'=Qm (Pm b s)):=by
 refine⟨((Xo [(1,.ptr 1000001 0 0),(2,.ptr 1000002 0 0),(3,.int .u8 v)] b s).D 60).st,?_,?_⟩
 ·have h:=(Qwd b s v).tv Q9 (r:=()) rfl (by rfl);rw[Qen] at h;exact h
 ·refine((Qxv b s v).tv Q9 hb (by rfl)).mono λe s' hg=>?_;obtain⟨rfl,g⟩:=hg;refine⟨_,60,⟨rfl,rfl⟩,?_⟩;rw[H9 (by rfl)] at g;exact g
theorem Qxa(b:Z6)(s:ze)(v:Int)(hb:(Vs b s v).run=some ()) :
  JB Tryz.prog GG 60 (Zk Og) [25] VR (I1 RB) (Qm (Pm b s)) [.int .u8 v] (λe b'=>e=.ret/\b'=Qm (Pm b s)):=by
 refine⟨((Xo [(1,.ptr 1000001 0 0),(2,.ptr 1000002 0 0),(3,.int .u8 v)] b s).D 60).st,?_,?_⟩
 ·have h:=(Qwd b s v).tv Q9 (r:=()) rfl (by rfl);rw[Qen] at h;exact h
 ·refine((Qxt b s v).tv Q9 hb (by rfl)).mono λe s' hg=>?_;obtain⟨rfl,g⟩:=hg;refine⟨_,60,⟨rfl,rfl⟩,?_⟩;rw[H9 (by rfl)] at g;exact g
section
variable (b:Z6) (l:Nat) (s:ze) (i:Int)
def Pk:List (Nat×V):=[(0,.QP l),(1,.ptr 1700070 0 0),(3,.int .i64 i)]
def VaC:Ext:=Xo (Pk l i) b s
def VaD(r:Option Int):Ext:=match r with
 | some c=>Xo (Pk l i++[(8,.bool true),(9,.QP l),(12,.int .u8 c)]) b s
 | none=>Xo (Pk l i++[(8,.bool false)]) b s
theorem Qa2:Y1 Tryz.prog GG [0,1,3] 17 (cL Bg) (Xo [(0,.QP l),(1,.ptr 1700070 0 0)] b s) (.done ():TT Unit) (λ_=>VaC b l s 0):=by unfold Y1;kernel_rfl
theorem Qa1:K0 Tryz.prog GG [0,1,3,8,9,12] 17 1 pQ 9 (VaC b l s i) (VQ s i) (VaD b l s i):=by unfold K0;kernel_rfl
theorem Qa0:Y1 Tryz.prog GG [0,1,3] 17 aR1 (VaC b l s i) (.done ():TT Unit) (λ_=>VaC b l s (Q0 (i+1))):=by unfold Y1;kernel_rfl
end
def MM(b:Z6)(s:ze)(x:Unit×Int):Option ((Unit×Int)⊕(Unit⊕Unit)):=
 match (VQ s x.2).run with
 | none=>none
 | some none=>some (.inr (.inl x.1))
 | some (some c)=>match (Vb b s c).run with
  | some y=>some (.inl (y,Q0 (x.2+1)))
  | none=>match (Vs b s c).run with
   | some _=>some (.inr (.inr ()))
   | none=>none
def mVa(b:Z6)(s:ze):Option (Unit⊕Unit):=A8 (MM b s) Yp ((),0)
def yVa:YL:=⟨60,Zk Og,#[25],VR,I1 RB⟩
def oVa(b:Z6)(s:ze):(Unit⊕Unit)->Exit->(zj)->Prop
 | .inl r,e,bw=>e=.normal/\bw=Qm (Pm b s)
 | .inr _,e,bw=>e=.ret/\bw=Qm (Pm b s)
theorem Qy3(b:Z6)(s:ze){r:Unit⊕Unit}(h:mVa b s=some r) :
    UW Tryz.prog GG Bg 17 (λl=>[.QP l,.ptr 1700070 0 0]) (Qm (Pm b s)) yVa (oVa b s r):=by
  refine UW.of λl=>?_;have e0:U4 17 [.QP l,.ptr 1700070 0 0] (Qm (Pm b s))=((Xo (U7 [.QP l,.ptr 1700070 0 0]) b s).D 17).st:=(B6 (x:=Xo (U7 [.QP l,.ptr 1700070 0 0]) b s) (by rfl) (by rfl) 17).symm;rw[e0,eAl];show YT _ _ _ _ _ ⟨.normal,((Xo [(0,.QP l),(1,.ptr 1700070 0 0)] b s).D 17).st⟩ _;refine YT.seq (YT.piece (Qa2 b l s) Q9 rfl (by rfl) λq g=>?_);show YT _ _ _ _ _ _ _;refine YT.XY g (YT.block ?_);refine YT.loop (λm st=>st.x=.normal/\∃z:Unit×Int,QU GG st.st ((VaC b l s z.2).D 17).st/\A8 (MM b s) m z=some r) (λm st hI=>?_) (n:=Yp) ⟨rfl,((),0),QU.same _,h⟩;obtain⟨x,st⟩:=st;obtain⟨rfl,⟨v,i⟩,g,hit⟩:=hI;refine YT.XY g ?_;cases m with
  | zero=>simp[A8] at hit
  | succ m=>
    rw[ZH] at hit;rw[eAL];cases h4:(VQ s i).run with
    | none => have hs0 : MM b s (v, i) = none := by unfold MM; simp only [h4]
              rw[hs0] at hit;simp at hit
    | some c=>
    refine YT.seq (YT.seq (YT.region ?_));show J3 _ _ _ _ _ ([0,1,2,3,4,5,6,7,8]++[9,10]) _ _;refine J3.tv ((Qa1 b l s i).tv Q9 h4 (by cases c<;>rfl)) λe st hq'=>⟨by rw[hq'.1];cases c<;>rfl,J3.XY hq'.2 ?_⟩;cases c with
    | none=>
      have hs0:MM b s (v,i)=some (.inr (.inl v)):=by unfold MM;simp only[h4]
      rw[hs0] at hit;obtain rfl:_=r:=wh hit;show J3 _ _ _ _ _ _ ⟨.normal,((Xo (Pk l i++[(8,.bool false)]) b s).D 17).st⟩ _;refine J3.step rfl (J3.step rfl (J3.nil ?_));show YT _ _ _ _ _ _ _;refine YT.cond (b:=false) rfl (YT.exit ?_);refine⟨.inl rfl,17,Zk (Pk l i++[(8,V.bool false),(14,V.bool false)]),Qm (Pm b s),?_,rfl,rfl⟩;rw[show E3 17 (Zk (Pk l i++[(8,V.bool false),(14,V.bool false)])) (Qm (Pm b s))=((Xo (Pk l i++[(8,V.bool false),(14,V.bool false)]) b s).D 17).st from(H9 (x:=Xo (Pk l i++[(8,V.bool false),(14,V.bool false)]) b s) (by rfl) 17).symm];exact W4 (Xo (Pk l i++[(8,V.bool false),(14,V.bool false)]) b s) (by rfl) rfl ⟨by rfl,by rfl⟩
    | some c=>
      show J3 _ _ _ _ _ _ ⟨.normal,((Xo (Pk l i++[(8,.bool true),(9,.QP l),(12,.int .u8 c)]) b s).D 17).st⟩ _
      have es:=H9 (x:=Xo (Pk l i++[(8,V.bool true),(9,V.QP l),(12,V.int .u8 c)]) b s) (by rfl) 17;rw[es];cases h5:(Vb b s c).run with
      | some v2=>
        have hs0:MM b s (v,i)=some (.inl (v2,Q0 (i+1))):=by unfold MM;simp only[h4,h5]
        rw[hs0] at hit;refine J3.KO (hi:=rfl) rfl rfl rfl rfl rfl rfl rfl (λi=>O9 (by rfl) i) (λi=>O9 (by rfl) i) (λp hp=>?_) rfl (Qxi b s c h5) (λe b' h=>.inl h.1) λe b' h=>?_
        · have:p∈[25]:=hp
          simp at this;subst this;exact(by decide:25 < 60)
        obtain⟨rfl,rfl⟩:=h;refine J3.step rfl (J3.nil ?_);show YT _ _ _ _ _ _ _;refine YT.cond (b:=true) rfl (YT.skip ?_);show YT _ _ _ _ _ _ _;refine YT.seq (YT.block (YT.skip ?_));show YT _ _ _ _ _ _ _;refine YT.XY (st':=((VaC b l s i).D 17).st) (W4 (VaC b l s i) (by rfl) rfl ⟨by rfl,by rfl⟩) ?_;refine YT.piece (Qa0 b l s i) Q9 rfl (by rfl) λq g=>?_;exact⟨m,Nat.lt_succ_self m,rfl,(v2,Q0 (i+1)),g,hit⟩
      | none=>
      cases h6:(Vs b s c).run with
      | none => have hs0 : MM b s (v, i) = none := by unfold MM; simp only [h4, h5, h6]
                rw[hs0] at hit;simp at hit
      | some u=>
        have hs0:MM b s (v,i)=some (.inr (.inr ())):=by unfold MM;simp only[h4,h5,h6]
        rw[hs0] at hit;obtain rfl:_=r:=wh hit;refine J3.KO (hi:=rfl) rfl rfl rfl rfl rfl rfl rfl (λi=>O9 (by rfl) i) (λi=>O9 (by rfl) i) (λp hp=>?_) rfl (Qxa b s c h6) (λe b' h=>.inr (.inl h.1)) λe b' h=>?_
        · have:p∈[25]:=hp
          simp at this;subst this;exact(by decide:25 < 60)
        obtain⟨rfl,rfl⟩:=h;refine J3.step rfl (J3.nil ?_);show YT _ _ _ _ _ _ _;refine YT.cond (b:=false) rfl (YT.exit ?_);refine⟨.inl rfl,17,Zk (Pk l i++[(8,V.bool true),(9,V.QP l),(12,V.int .u8 c),(13,V.bool false),(14,V.bool false)]),Qm (Pm b s),?_,rfl,rfl⟩;rw[show E3 17 (Zk (Pk l i++[(8,V.bool true),(9,V.QP l),(12,V.int .u8 c),(13,V.bool false),(14,V.bool false)])) (Qm (Pm b s))=((Xo (Pk l i++[(8,V.bool true),(9,V.QP l),(12,V.int .u8 c),(13,V.bool false),(14,V.bool false)]) b s).D 17).st from(H9 (x:=Xo (Pk l i++[(8,V.bool true),(9,V.QP l),(12,V.int .u8 c),(13,V.bool false),(14,V.bool false)]) b s) (by rfl) 17).symm];exact W4 (Xo (Pk l i++[(8,V.bool true),(9,V.QP l),(12,V.int .u8 c),(13,V.bool false),(14,V.bool false)]) b s) (by rfl) rfl ⟨by rfl,by rfl⟩
def Ob(b:Z6)(s:ze):Ext:=Ext.of .normal [(1,.ptr 1 0 0),(2,.ptr 2 0 0),(24,.fn 206 [] [.ptr 700070 0 0])] [(1,⟨5,true,[[.str b.fp,.str b.fH,.i b.fC,.i b.fB,.i b.fP]]⟩),(2,⟨1,true,[[.bool false]]⟩),(700070,⟨1,true,[[.str s]]⟩)] [] (by rfl)
def VaE(b:Z6):(Unit⊕Unit)->Ext
 | .inl _=>Ext.of .normal [(1,.ptr 1 0 0),(2,.ptr 2 0 0)] [(1,⟨5,true,[[.str b.fp,.str b.fH,.i b.fC,.i b.fB,.i b.fP]]⟩),(2,⟨1,true,[[.bool false]]⟩)] [] (by rfl)
 | .inr _=>Ext.of .ret [(2,.ptr 2 0 0)] [(2,⟨1,true,[[.bool false]]⟩)] [] (by rfl)
theorem bVa(b:Z6)(s:ze):QZ (Qm (Ob b s).bs)=Qm (Pm b s):=by
 rw[UX];have:((Ob b s).bs.map λp=>(sh p.1,p.2.Qs sh))=Pm b s:=by kernel_rfl
 rw[this]
theorem Qzr(b:Z6)(s:ze){r:Unit⊕Unit}(h:mVa b s=some r) :
  TV Tryz.prog GG (.rangeFunc (.tmp 24) #[25] VR (I1 RB)) ((Ob b s).D 60).st (λe st=>e=(VaE b r).ex/\QU GG st ((VaE b r).D 60).st):=by
 have ht:(λi=>W1 sh (((Ob b s).D 60).st.t i))=Zk Og:=by
  have:((Ob b s).D 60).st.t=Zk (Ob b s).ts:=rfl;rw[this,Zc]
  have:((Ob b s).ts.map λp=>(p.1,W1 sh p.2))=Og:=by kernel_rfl
  rw[this]
 have hb:Tryz.f206.body=some Bg:=by kernel_rfl
 refine TV.Ar (f:=206) (fi:=Tryz.f206) (c:=Bg) (first:=[]) (caps:=[.ptr 1700070 0 0]) (R:=λe bw=>oVa b s r e bw) ?_ Tryz.func206 hb (by kernel_rfl) (by kernel_rfl) ?_ (λi=>?_) ?_ ?_
 ·show some ((λi=>W1 sh (((Ob b s).D 60).st.t i)) 24)=_;rw[ht];rfl
 ·intro bq k hk;obtain⟨q,h1,rfl,_⟩:=Yg (show Qm (Ob b s).bs bq=some k from hk);show ((((Ob b s).us).contains q.1 || Qw q.1))=true;simp only[Ext.us,zZ,wj,zI];exact .inl (zM.2 ⟨q,h1,rfl⟩)
 ·have:=congrFun ht i;rw[show W1 sh (((Ob b s).D 60).st.t i)=Zk Og i from this];exact O9 (by rfl) i
 ·have hbb:QZ ((Ob b s).D 60).st.b=Qm (Pm b s):=bVa b s;rw[ht,hbb]
  have e:max Tryz.f206.ntmps (([]:List V).length+1+[V.ptr 1700070 0 0].length)=17:=by kernel_rfl
  rw[e];exact Qy3 b s h
 ·intro e b' ho;rcases r with r|r
  ·obtain⟨rfl,rfl⟩:=ho;exact⟨.inl rfl,Qm (Ob b s).bs,(bVa b s).symm,Yj (ts:=(Ob b s).ts) (bs:=(Ob b s).bs) (us:=(Ob b s).us) (by rfl) (by rfl),rfl,W4 (VaE b (.inl r)) (by rfl) rfl ⟨by rfl,by rfl⟩⟩
  ·obtain⟨rfl,rfl⟩:=ho;exact⟨.inr (.inl rfl),Qm (Ob b s).bs,(bVa b s).symm,Yj (ts:=(Ob b s).ts) (bs:=(Ob b s).bs) (us:=(Ob b s).us) (by rfl) (by rfl),rfl,W4 (VaE b (.inr ())) (by rfl) rfl ⟨by rfl,by rfl⟩⟩
def Qh3(b:Z6)(s:ze):Sub Tryz.prog GG (Unit⊕Unit):=
 ⟨.rangeFunc (.tmp 24) #[25] VR (I1 RB),60,Ob b s,mVa b s,VaE b ,λ_ h=>Qzr b s h⟩
def Pd(y:Int)(s:ze):List (Nat×Qd):=(Xl [] y s).bs
theorem Qwi(y:Int)(s:ze)(v:Int):Y1 Tryz.prog GG [2,5,6,20,21] 41 VC (Xl ((21,.int .u8 v) :: Ot) y s) (.done ():TT Unit) (λ_=>Xl [(2,.ptr 1000002 0 0),(5,.ptr 1000005 0 0),(6,.int .u8 v)] y s):=by unfold Y1;kernel_rfl
theorem Qer(y:Int)(s:ze)(v:Int):(Xl ((21,.int .u8 v) :: Ot) y s |>.D 41).st=Kl (E3 41 (Zk Ot) (Qm (Pd y s))) ([21].zip [.int .u8 v]):=by
 rw[H9 (by rfl)];exact(Uh 41 Ot _ 21 (.int .u8 v)).symm
theorem Qxg(y:Int)(s:ze)(v:Int){r:Int}(hb:(Vv y s v).run=some r) :
  JB Tryz.prog GG 41 (Zk Ot) [21] VC (I1 Pq) (Qm (Pd y s)) [.int .u8 v] (λe b'=>e=.normal/\b'=Qm (Pd r s)):=by
 refine⟨((Xl [(2,.ptr 1000002 0 0),(5,.ptr 1000005 0 0),(6,.int .u8 v)] y s).D 41).st,?_,?_⟩
 ·have h:=(Qwi y s v).tv Q9 (r:=()) rfl (by rfl);rw[Qer] at h;exact h
 ·refine((Qad y s v).tv Q9 hb (by rfl)).mono λe s' hg=>?_;obtain⟨rfl,g⟩:=hg;refine⟨_,41,⟨rfl,rfl⟩,?_⟩;rw[H9 (by rfl)] at g;exact g
theorem Qxf(y:Int)(s:ze)(v:Int)(hb:(Vt y s v).run=some ()) :
  JB Tryz.prog GG 41 (Zk Ot) [21] VC (I1 Pq) (Qm (Pd y s)) [.int .u8 v] (λe b'=>e=.ret/\b'=Qm (Pd y s)):=by
 refine⟨((Xl [(2,.ptr 1000002 0 0),(5,.ptr 1000005 0 0),(6,.int .u8 v)] y s).D 41).st,?_,?_⟩
 ·have h:=(Qwi y s v).tv Q9 (r:=()) rfl (by rfl);rw[Qer] at h;exact h
 ·refine((Qae y s v).tv Q9 hb (by rfl)).mono λe s' hg=>?_;obtain⟨rfl,g⟩:=hg;refine⟨_,41,⟨rfl,rfl⟩,?_⟩;rw[H9 (by rfl)] at g;exact g
section
variable (l:Nat) (y:Int) (s:ze) (i:Int)
def Fit:List (Nat×V):=[(0,.QP l),(1,.ptr 1700070 0 0),(3,.int .i64 i)]
def FiC:Ext:=Xl (Fit l i) y s
def FiD(r:Option Int):Ext:=match r with
 | some c=>Xl (Fit l i++[(8,.bool true),(9,.QP l),(12,.int .u8 c)]) y s
 | none=>Xl (Fit l i++[(8,.bool false)]) y s
theorem Qai:Y1 Tryz.prog GG [0,1,3] 17 (cL Bg) (Xl [(0,.QP l),(1,.ptr 1700070 0 0)] y s) (.done ():TT Unit) (λ_=>FiC l y s 0):=by unfold Y1;kernel_rfl
theorem Qaa:K0 Tryz.prog GG [0,1,3,8,9,12] 17 1 pQ 9 (FiC l y s i) (VQ s i) (FiD l y s i):=by unfold K0;kernel_rfl
theorem Qax:Y1 Tryz.prog GG [0,1,3] 17 aR1 (FiC l y s i) (.done ():TT Unit) (λ_=>FiC l y s (Q0 (i+1))):=by unfold Y1;kernel_rfl
end
def ME(s:ze)(x:Int×Int):Option ((Int×Int)⊕(Int⊕Unit)):=
 match (VQ s x.2).run with
 | none=>none
 | some none=>some (.inr (.inl x.1))
 | some (some c)=>match (Vv x.1 s c).run with
  | some y=>some (.inl (y,Q0 (x.2+1)))
  | none=>match (Vt x.1 s c).run with
   | some _=>some (.inr (.inr ()))
   | none=>none
def mFi(y:Int)(s:ze):Option (Int⊕Unit):=A8 (ME s) Yp (y,0)
def yFi:YL:=⟨41,Zk Ot,#[21],VC,I1 Pq⟩
def oFi(s:ze):(Int⊕Unit)->Exit->(zj)->Prop
 | .inl r,e,bw=>e=.normal/\bw=Qm (Pd r s)
 | .inr _,e,bw=>e=.ret/\∃r,bw=Qm (Pd r s)
theorem Qy6(y:Int)(s:ze){r:Int⊕Unit}(h:mFi y s=some r) :
    UW Tryz.prog GG Bg 17 (λl=>[.QP l,.ptr 1700070 0 0]) (Qm (Pd y s)) yFi (oFi s r):=by
  refine UW.of λl=>?_;have e0:U4 17 [.QP l,.ptr 1700070 0 0] (Qm (Pd y s))=((Xl (U7 [.QP l,.ptr 1700070 0 0]) y s).D 17).st:=(B6 (x:=Xl (U7 [.QP l,.ptr 1700070 0 0]) y s) (by rfl) (by rfl) 17).symm;rw[e0,eAl];show YT _ _ _ _ _ ⟨.normal,((Xl [(0,.QP l),(1,.ptr 1700070 0 0)] y s).D 17).st⟩ _;refine YT.seq (YT.piece (Qai l y s) Q9 rfl (by rfl) λq g=>?_);show YT _ _ _ _ _ _ _;refine YT.XY g (YT.block ?_);refine YT.loop (λm st=>st.x=.normal/\∃z:Int×Int,QU GG st.st ((FiC l z.1 s z.2).D 17).st/\A8 (ME s) m z=some r) (λm st hI=>?_) (n:=Yp) ⟨rfl,(y,0),QU.same _,h⟩;obtain⟨x,st⟩:=st;obtain⟨rfl,⟨v,i⟩,g,hit⟩:=hI;refine YT.XY g ?_;cases m with
  | zero=>simp[A8] at hit
  | succ m=>
    rw[ZH] at hit;rw[eAL];cases h4:(VQ s i).run with
    | none => have hs0 : ME s (v, i) = none := by unfold ME; simp only [h4]
              rw[hs0] at hit;simp at hit
    | some c=>
    refine YT.seq (YT.seq (YT.region ?_));show J3 _ _ _ _ _ ([0,1,2,3,4,5,6,7,8]++[9,10]) _ _;refine J3.tv ((Qaa l v s i).tv Q9 h4 (by cases c<;>rfl)) λe st hq'=>⟨by rw[hq'.1];cases c<;>rfl,J3.XY hq'.2 ?_⟩;cases c with
    | none=>
      have hs0:ME s (v,i)=some (.inr (.inl v)):=by unfold ME;simp only[h4]
      rw[hs0] at hit;obtain rfl:_=r:=wh hit;show J3 _ _ _ _ _ _ ⟨.normal,((Xl (Fit l i++[(8,.bool false)]) v s).D 17).st⟩ _;refine J3.step rfl (J3.step rfl (J3.nil ?_));show YT _ _ _ _ _ _ _;refine YT.cond (b:=false) rfl (YT.exit ?_);refine⟨.inl rfl,17,Zk (Fit l i++[(8,V.bool false),(14,V.bool false)]),Qm (Pd v s),?_,rfl,rfl⟩;rw[show E3 17 (Zk (Fit l i++[(8,V.bool false),(14,V.bool false)])) (Qm (Pd v s))=((Xl (Fit l i++[(8,V.bool false),(14,V.bool false)]) v s).D 17).st from(H9 (x:=Xl (Fit l i++[(8,V.bool false),(14,V.bool false)]) v s) (by rfl) 17).symm];exact W4 (Xl (Fit l i++[(8,V.bool false),(14,V.bool false)]) v s) (by rfl) rfl ⟨by rfl,by rfl⟩
    | some c=>
      show J3 _ _ _ _ _ _ ⟨.normal,((Xl (Fit l i++[(8,.bool true),(9,.QP l),(12,.int .u8 c)]) v s).D 17).st⟩ _
      have es:=H9 (x:=Xl (Fit l i++[(8,V.bool true),(9,V.QP l),(12,V.int .u8 c)]) v s) (by rfl) 17;rw[es];cases h5:(Vv v s c).run with
      | some v2=>
        have hs0:ME s (v,i)=some (.inl (v2,Q0 (i+1))):=by unfold ME;simp only[h4,h5]
        rw[hs0] at hit;refine J3.KO (hi:=rfl) rfl rfl rfl rfl rfl rfl rfl (λi=>O9 (by rfl) i) (λi=>O9 (by rfl) i) (λp hp=>?_) rfl (Qxg v s c h5) (λe b' h=>.inl h.1) λe b' h=>?_
        · have:p∈[21]:=hp
          simp at this;subst this;exact(by decide:21 < 41)
        obtain⟨rfl,rfl⟩:=h;refine J3.step rfl (J3.nil ?_);show YT _ _ _ _ _ _ _;refine YT.cond (b:=true) rfl (YT.skip ?_);show YT _ _ _ _ _ _ _;refine YT.seq (YT.block (YT.skip ?_));show YT _ _ _ _ _ _ _;refine YT.XY (st':=((FiC l v2 s i).D 17).st) (W4 (FiC l v2 s i) (by rfl) rfl ⟨by rfl,by rfl⟩) ?_;refine YT.piece (Qax l v2 s i) Q9 rfl (by rfl) λq g=>?_;exact⟨m,Nat.lt_succ_self m,rfl,(v2,Q0 (i+1)),g,hit⟩
      | none=>
      cases h6:(Vt v s c).run with
      | none => have hs0 : ME s (v, i) = none := by unfold ME; simp only [h4, h5, h6]
                rw[hs0] at hit;simp at hit
      | some u=>
        have hs0:ME s (v,i)=some (.inr (.inr ())):=by unfold ME;simp only[h4,h5,h6]
        rw[hs0] at hit;obtain rfl:_=r:=wh hit;refine J3.KO (hi:=rfl) rfl rfl rfl rfl rfl rfl rfl (λi=>O9 (by rfl) i) (λi=>O9 (by rfl) i) (λp hp=>?_) rfl (Qxf v s c h6) (λe b' h=>.inr (.inl h.1)) λe b' h=>?_
        · have:p∈[21]:=hp
          simp at this;subst this;exact(by decide:21 < 41)
        obtain⟨rfl,rfl⟩:=h;refine J3.step rfl (J3.nil ?_);show YT _ _ _ _ _ _ _;refine YT.cond (b:=false) rfl (YT.exit ?_);refine⟨.inl rfl,17,Zk (Fit l i++[(8,V.bool true),(9,V.QP l),(12,V.int .u8 c),(13,V.bool false),(14,V.bool false)]),Qm (Pd v s),?_,rfl,v,rfl⟩;rw[show E3 17 (Zk (Fit l i++[(8,V.bool true),(9,V.QP l),(12,V.int .u8 c),(13,V.bool false),(14,V.bool false)])) (Qm (Pd v s))=((Xl (Fit l i++[(8,V.bool true),(9,V.QP l),(12,V.int .u8 c),(13,V.bool false),(14,V.bool false)]) v s).D 17).st from(H9 (x:=Xl (Fit l i++[(8,V.bool true),(9,V.QP l),(12,V.int .u8 c),(13,V.bool false),(14,V.bool false)]) v s) (by rfl) 17).symm];exact W4 (Xl (Fit l i++[(8,V.bool true),(9,V.QP l),(12,V.int .u8 c),(13,V.bool false),(14,V.bool false)]) v s) (by rfl) rfl ⟨by rfl,by rfl⟩
def Ov(y:Int)(s:ze):Ext:=Ext.of .normal [(2,.ptr 2 0 0),(5,.ptr 5 0 0),(20,.fn 206 [] [.ptr 700070 0 0])] [(2,⟨1,true,[[.bool false]]⟩),(5,⟨1,true,[[.i y]]⟩),(700070,⟨1,true,[[.str s]]⟩)] [] (by rfl)
def FiE:(Int⊕Unit)->Ext
 | .inl r=>Ext.of .normal [(2,.ptr 2 0 0),(5,.ptr 5 0 0)] [(2,⟨1,true,[[.bool false]]⟩),(5,⟨1,true,[[.i r]]⟩)] [] (by rfl)
 | .inr _=>Ext.of .ret [(2,.ptr 2 0 0)] [(2,⟨1,true,[[.bool false]]⟩)] [] (by rfl)
theorem bFi(y:Int)(s:ze):QZ (Qm (Ov y s).bs)=Qm (Pd y s):=by
 rw[UX];have:((Ov y s).bs.map λp=>(sh p.1,p.2.Qs sh))=Pd y s:=by kernel_rfl
 rw[this]
theorem Qzb(y:Int)(s:ze){r:Int⊕Unit}(h:mFi y s=some r) :
  TV Tryz.prog GG (.rangeFunc (.tmp 20) #[21] VC (I1 Pq)) ((Ov y s).D 41).st (λe st=>e=(FiE r).ex/\QU GG st ((FiE r).D 41).st):=by
 have ht:(λi=>W1 sh (((Ov y s).D 41).st.t i))=Zk Ot:=by
  have:((Ov y s).D 41).st.t=Zk (Ov y s).ts:=rfl;rw[this,Zc]
  have:((Ov y s).ts.map λp=>(p.1,W1 sh p.2))=Ot:=by kernel_rfl
  rw[this]
 have hb:Tryz.f206.body=some Bg:=by kernel_rfl
 refine TV.Ar (f:=206) (fi:=Tryz.f206) (c:=Bg) (first:=[]) (caps:=[.ptr 1700070 0 0]) (R:=λe bw=>oFi s r e bw) ?_ Tryz.func206 hb (by kernel_rfl) (by kernel_rfl) ?_ (λi=>?_) ?_ ?_
 ·show some ((λi=>W1 sh (((Ov y s).D 41).st.t i)) 20)=_;rw[ht];rfl
 ·intro bq k hk;obtain⟨q,h1,rfl,_⟩:=Yg (show Qm (Ov y s).bs bq=some k from hk);show ((((Ov y s).us).contains q.1 || Qw q.1))=true;simp only[Ext.us,zZ,wj,zI];exact .inl (zM.2 ⟨q,h1,rfl⟩)
 ·have:=congrFun ht i;rw[show W1 sh (((Ov y s).D 41).st.t i)=Zk Ot i from this];exact O9 (by rfl) i
 ·have hbb:QZ ((Ov y s).D 41).st.b=Qm (Pd y s):=bFi y s;rw[ht,hbb]
  have e:max Tryz.f206.ntmps (([]:List V).length+1+[V.ptr 1700070 0 0].length)=17:=by kernel_rfl
  rw[e];exact Qy6 y s h
 ·intro e b' ho;rcases r with r|r
  ·obtain⟨rfl,rfl⟩:=ho;exact⟨.inl rfl,Qm (Ov r s).bs,(bFi r s).symm,Yj (ts:=(Ov y s).ts) (bs:=(Ov r s).bs) (us:=(Ov y s).us) (by rfl) (by rfl),rfl,W4 (FiE (.inl r)) (by rfl) rfl ⟨by rfl,by rfl⟩⟩
  ·obtain⟨rfl,r,rfl⟩:=ho;exact⟨.inr (.inl rfl),Qm (Ov r s).bs,(bFi r s).symm,Yj (ts:=(Ov y s).ts) (bs:=(Ov r s).bs) (us:=(Ov y s).us) (by rfl) (by rfl),rfl,W4 (FiE (.inr ())) (by rfl) rfl ⟨by rfl,by rfl⟩⟩
def yF(y:Int)(s:ze):Sub Tryz.prog GG (Int⊕Unit):=
 ⟨.rangeFunc (.tmp 20) #[21] VC (I1 Pq),41,Ov y s,mFi y s,FiE ,λ_ h=>Qzb y s h⟩
def Qxy :Sp (Unit):=.Ze 201 [] Q9 Tryz.func201 rfl (λ_=>rfl) (show JT Pg GG [0,2,3,4,5,9,16] Tryz.f201 [.str (bs [46,45])] (Ext.of .normal (U7 [.str (bs [46,45])]) [] [] (by rfl)) (.tt (.ff (.tt (.ff (.ff (.done ()))))):TT (Unit)) (λ(r:Unit)=>.Qc [.agg (X7 45 (.bool false) (H8 [.bool true,.bool true] (X7 209 (.bool false) []))),.bool true]) (λ(r:Unit)=>Ext.of .normal [] [] [] (by rfl)) by unfold JT;kernel_rfl)
def Qk8(p0:Int):TT (Bool):=.Ke 1004 p0 [0,1,2,3,4,5,6,7,8,9,10,11,12,13,14,15,16,17,18,19,20,21,22,23,24,25,26,27,28,29,30,31,32,33,34,35,36,37,38,39,40,41,42,43,44,45,46,47,48,49,50,51,52,53,54,55,56,57,58,59,60,61,62,63,64,65,66,67,68,69,70,71,72,73,74,75,76,77,78,79,80,81,82,83,84,85,86,87,88,89,90,91,92,93,94,95,96,97,98,99,100,101,102,103,104,105,106,107,108,109,110,111,112,113,114,115,116,117,118,119,120,121,122,123,124,125,126,127,128,129,130,131,132,133,134,135,136,137,138,139,140,141,142,143,144,145,146,147,148,149,150,151,152,153,154,155,156,157,158,159,160,161,162,163,164,165,166,167,168,169,170,171,172,173,174,175,176,177,178,179,180,181,182,183,184,185,186,187,188,189,190,191,192,193,194,195,196,197,198,199,200,201,202,203,204,205,206,207,208,209,210,211,212,213,214,215,216,217,218,219,220,221,222,223,224,225,226,227,228,229,230,231,232,233,234,235,236,237,238,239,240,241,242,243,244,245,246,247,248,249,250,251,252,253,254,255] (λv=>bif [45,46].contains v then .done true else .done false)
def oA(p0:Int):Sp (Bool):=oF [0,1,4] Tryz.func243 [.snap (X7 45 (.bool false) (H8 [.bool true,.bool true] (X7 209 (.bool false) []))),.int .u8 p0] (Qk8 p0) (λr=>.bool r)
def Qkr(p0:ze):TT (ze):=.bind 1 (.lp (λ(l416:ze)=>Ext.l .normal [(0,.str l416),(1,.snap (X7 45 (.bool false) (H8 [.bool true,.bool true] (X7 209 (.bool false) [])))),(4,.str zg)] []) (λl416=>.br 0 (decide ((0:Int) < (l416.size:Int))) (.Ql 2006 (decide (0<=(Q0 ((l416.size:Int) - 1))/\(Q0 ((l416.size:Int) - 1)) < (l416.size:Int))) (.cl 2007 (oA (QQ l416 (Q0 ((l416.size:Int) - 1)))) λr417=>.br 0 (!r417) (.done (.inr l416)) (.Ql 3005 (decide (0<=(Q0 ((l416.size:Int) - 1)))&&decide ((Q0 ((l416.size:Int) - 1))<=(l416.size:Int))) (.done (.inl (l416.extract 0 ((Q0 ((l416.size:Int) - 1)).toNat))))))) (.done (.inr l416))) p0) (λ(e418:ze)=>Ext.l (.exit 0) [(0,.str e418),(4,.str zg)] []) (λe418=>.done e418)
def tG(p0:ze):Sp (ze):=oF [0,1,4,7,15] Tryz.func203 [.str p0,.snap (X7 45 (.bool false) (H8 [.bool true,.bool true] (X7 209 (.bool false) [])))] (Qkr p0) (λr=>.str r)
def Qkp(p0:ze):TT (ze):=.bind 1 (.lp (λ(l422:ze)=>Ext.l .normal [(0,.str l422),(1,.snap (X7 45 (.bool false) (H8 [.bool true,.bool true] (X7 209 (.bool false) [])))),(4,.str zg)] []) (λl422=>.br 0 (decide ((0:Int) < (l422.size:Int))) (.Ql 2003 (decide (0<=(0:Int)/\(0:Int) < (l422.size:Int))) (.cl 2004 (oA (QQ l422 0)) λr423=>.br 0 (!r423) (.done (.inr l422)) (.Ql 3002 (decide (0<=(1:Int))&&decide ((1:Int)<=(l422.size:Int))) (.done (.inl (l422.extract 1 l422.size)))))) (.done (.inr l422))) p0) (λ(e424:ze)=>Ext.l (.exit 0) [(0,.str e424),(4,.str zg)] []) (λe424=>.done e424)
def tN(p0:ze):Sp (ze):=oF [0,1,4,7,12] Tryz.func202 [.str p0,.snap (X7 45 (.bool false) (H8 [.bool true,.bool true] (X7 209 (.bool false) [])))] (Qkp p0) (λr=>.str r)
def Qmx(p0:ze):TT (ze):=.Zz 1 [12] (.an 1004 (decide (p0=zg)) (.done true)) zm λc412=>.br 0 c412 (.done p0) (.ff (.cl 5002 Qxy λr413=>.tt (.view 7002 (tG p0) [] λr419=>.view 7003 (tN r419) [] λr425=>.done r425)))
def vL(p0:ze):Sp (ze):=oF [0,1,4,5,6,12,21,34] Tryz.func149 [.str p0,.str (bs [46,45])] (Qmx p0) (λr=>.str r)
def vO(p0:ze):Sp (Unit):=.Ze 150 [] Q9 Tryz.func150 rfl (λ_=>rfl) (show JT Pg GG [0,1,2] Tryz.f150 [.str p0] (Ext.of .normal (U7 [.str p0]) [] [] (by rfl)) (.done ():TT (Unit)) (λ(r:Unit)=>.fn 206 [] [.ptr 1 0 0]) (λ(r:Unit)=>Ext.of .normal [] [(1,⟨1,true,[[.str p0]]⟩)] [] (by rfl)) by unfold JT;kernel_rfl)
def sF(p0:Z6):TT (Bool):=.Zz 1 [21] (.oR 1006 (decide ((p0.fp.size:Int) < 1)) (.oR 1012 (decide ((32:Int) < (p0.fp.size:Int))) (.cl 1014 (vL p0.fp) λr426=>.done (!decide (r426=p0.fp))))) zm λc427=>.br 0 c427 (.done false) (.call 3003 (vO p0.fp) [] [(1,500011)] λr428=>.gh 1 (.Qs 500011 700070) (.EW (Qh3 p0 p0.fp) (λr429=>.an 7006 ((p0.fH.size:Int)==32) (.an 7011 (decide ((0:Int)<=p0.fC)) (.an 7018 (decide (p0.fC<=p0.fB)) (.an 7023 (decide (p0.fB<=1099511627776)) (.an 7028 (decide ((0:Int)<=p0.fP)) (.done (decide (p0.fP<=281474976710655)))))))) λr430=>.done false))
def OK(p0:Z6):Sp (Bool):=oF [0,1,2,3,21,24,25,28] Tryz.func91 [.agg [.str p0.fp,.str p0.fH,.i p0.fC,.i p0.fB,.i p0.fP]] (sF p0) (λr=>.bool r)
def g99(p0 p1:ze):TT (Bool):=.Zz 1 [4] (.an 1007 (decide ((p1.size:Int)<=(p0.size:Int))) (.Ql 1010 (decide (0<=(p1.size:Int))&&decide ((p1.size:Int)<=(p0.size:Int))) (.done (decide ((p0.extract 0 ((p1.size:Int).toNat))=p1))))) zm λc431=>.done c431
def s99(p0 p1:ze):Sp (Bool):=oF [0,1,4] Tryz.func99 [.str p0,.str p1] (g99 p0 p1) (λr=>.bool r)
def Qk5(p0 p1:ze):TT (ze×Bool):=.cl 1003 (s99 p0 p1) λr432=>.br 0 (!r432) (.done (p0,false)) (.Ql 3004 (decide (0<=(p1.size:Int))&&decide ((p1.size:Int)<=(p0.size:Int))) (.done ((p0.extract ((p1.size:Int).toNat) p0.size),true)))
def tJ(p0 p1:ze):Sp (ze×Bool):=oF [0,1,4,5,9] Tryz.func253 [.str p0,.str p1] (Qk5 p0 p1) (λr=>.Qc [.str r.1,.bool r.2])
def Qka(p0 p1:ze):TT (ze×Bool):=.cl 1003 (tJ p0 p1) λr433=>.done (r433.1,r433.2)
def tD(p0 p1:ze):Sp (ze×Bool):=oF [0,1,4,5] Tryz.func219 [.str p0,.str p1] (Qka p0 p1) (λr=>.Qc [.str r.1,.bool r.2])
def eE(p0:ze):TT (Bool):=.cl 1002 (tD p0 (bs [115,104,97,45,50,53,54,32])) λr434=>.Zz 2 [18] (.oR 2004 (!r434.2) (.done ((r434.1.size:Int) != 95))) zm λc435=>.br 0 c435 (.done false) (.call 5002 (vO r434.1) [] [(1,500012)] λr436=>.gh 1 (.Qs 500012 700070) (.EW (yF 0 r434.1) (λr437=>.done true) λr438=>.done false))
def Fy(p0:ze):Sp (Bool):=oF [0,2,3,4,5,6,18,20,21,38] Tryz.func174 [.str p0] (eE p0) (λr=>.bool r)
end Go.Proofs.YtjdieimefebnfaaGreatDoor
namespace Go.Proofs
open Go.Shelf
def Tryz.jnR:Go.Shelf.Ren:=⟨fun|105=>23|212=>50|99=>51|165=>52|166=>53|170=>54|169=>55|263=>97|264=>98|206=>99|240=>100|241=>101|276=>157|277=>158|156=>152|n=>n,
 fun|9=>9|3=>3|4=>4|20=>20|0=>0|46=>52|109=>111|5=>5|72=>116|76=>119|51=>163|146=>164|53=>137|148=>166|70=>114|37=>57|75=>118|127=>168|164=>219|80=>122|31=>40|n=>n,λn=>n⟩
theorem Tryz.Kj:Lays.n105 Tryz.prog Tryz.jnR where
 mixed:=by kernel_rfl
 f99:=Tryz.func51.trans (congrArg some (by kernel_rfl))
 f105:=Tryz.func23.trans (congrArg some (by kernel_rfl))
 f165:=Tryz.func52.trans (congrArg some (by kernel_rfl))
 f166:=Tryz.func53.trans (congrArg some (by kernel_rfl))
 f169:=Tryz.func55.trans (congrArg some (by kernel_rfl))
 f170:=Tryz.func54.trans (congrArg some (by kernel_rfl))
 f206:=Tryz.func99.trans (congrArg some (by kernel_rfl))
 f212:=Tryz.func50.trans (congrArg some (by kernel_rfl))
 f240:=Tryz.func100.trans (congrArg some (by kernel_rfl))
 f241:=Tryz.func101.trans (congrArg some (by kernel_rfl))
 f263:=Tryz.func97.trans (congrArg some (by kernel_rfl))
 f264:=Tryz.func98.trans (congrArg some (by kernel_rfl))
 f276:=Tryz.func157.trans (congrArg some (by kernel_rfl))
 f277:=Tryz.func158.trans (congrArg some (by kernel_rfl))
 t0:=Tryz.underlying0
 a0:=Tryz.isAgg0
 z0:=Tryz.sizeOf0
 v0:=Tryz.zeroValue0
 t3:=Tryz.underlying3
 a3:=Tryz.isAgg3
 z3:=Tryz.sizeOf3
 v3:=Tryz.zeroValue3
 t4:=Tryz.underlying4
 a4:=Tryz.isAgg4
 z4:=Tryz.sizeOf4
 v4:=Tryz.zeroValue4
 t5:=Tryz.underlying5
 a5:=Tryz.isAgg5
 z5:=Tryz.sizeOf5
 v5:=Tryz.zeroValue5
 t9:=Tryz.underlying9
 a9:=Tryz.isAgg9
 z9:=Tryz.sizeOf9
 v9:=Tryz.zeroValue9
 t20:=Tryz.underlying20
 a20:=Tryz.isAgg20
 z20:=Tryz.sizeOf20
 v20:=Tryz.zeroValue20
 t37:=Tryz.underlying57
 a37:=Tryz.isAgg57
 z37:=Tryz.sizeOf57
 v37:=Tryz.zeroValue57
 t46:=Tryz.underlying52
 a46:=Tryz.isAgg52
 z46:=Tryz.sizeOf52
 v46:=Tryz.zeroValue52
 t51:=Tryz.underlying163
 a51:=Tryz.isAgg163
 z51:=Tryz.sizeOf163
 v51:=Tryz.zeroValue163
 t53:=Tryz.underlying137
 a53:=Tryz.isAgg137
 z53:=Tryz.sizeOf137
 v53:=Tryz.zeroValue137
 t70:=Tryz.underlying114
 a70:=Tryz.isAgg114
 z70:=Tryz.sizeOf114
 v70:=Tryz.zeroValue114
 t72:=Tryz.underlying116
 a72:=Tryz.isAgg116
 z72:=Tryz.sizeOf116
 v72:=Tryz.zeroValue116
 t75:=Tryz.underlying118
 a75:=Tryz.isAgg118
 z75:=Tryz.sizeOf118
 v75:=Tryz.zeroValue118
 t76:=Tryz.underlying119
 a76:=Tryz.isAgg119
 z76:=Tryz.sizeOf119
 v76:=Tryz.zeroValue119
 t109:=Tryz.underlying111
 a109:=Tryz.isAgg111
 z109:=Tryz.sizeOf111
 v109:=Tryz.zeroValue111
 t127:=Tryz.underlying168
 a127:=Tryz.isAgg168
 z127:=Tryz.sizeOf168
 v127:=Tryz.zeroValue168
 t146:=Tryz.underlying164
 a146:=Tryz.isAgg164
 z146:=Tryz.sizeOf164
 v146:=Tryz.zeroValue164
 t148:=Tryz.underlying166
 a148:=Tryz.isAgg166
 z148:=Tryz.sizeOf166
 v148:=Tryz.zeroValue166
 t164:=Tryz.underlying219
 a164:=Tryz.isAgg219
 z164:=Tryz.sizeOf219
 v164:=Tryz.zeroValue219
theorem Tryz.FL : Lays.n156 Tryz.prog Tryz.jnR := { Tryz.Kj with
 f156:=Tryz.func152.trans (congrArg some (by kernel_rfl))
 t31:=Tryz.underlying40
 a31:=Tryz.isAgg40
 z31:=Tryz.sizeOf40
 v31 := Tryz.zeroValue40 }
theorem Tryz.jnX:Builder.Extra Tryz.prog Tryz.jnR where
 sizeBuilder:=by kernel_rfl
 liesBuilder:=by kernel_rfl
 t5:=Tryz.Kj.t5
 a5:=Tryz.Kj.a5
 z5:=Tryz.Kj.z5
 v5:=Tryz.Kj.v5
 infoByte:=by kernel_rfl
 cellsByte:=by kernel_rfl
 sizeByte:=by kernel_rfl
 neB5:=by decide
end Go.Proofs
namespace Go.Proofs.YtjdieimefebnfaaGreatDoor
open Go Go.EV
theorem CR{α:Type}{c:Bool}{x r:α}(h:(T.Ql (P:=Tryz.prog) (G:=GG) 0 c (.done x)).run=some r):c=true/\r=x:=by
 have e:(T.Ql (P:=Tryz.prog) (G:=GG) 0 c (.done x)).run=(bif c then some x else none):=rfl;grind
def Qxm(s:ze)(n:Nat):ze:=⟨(Lib.repeatL s.data.toList n).toArray⟩
def g23(p0:ze)(p1:Int):TT ze:=.Ql 0 (decide (0<=p1/\p1<=9223372036854775807/\p0.size * p1.toNat<=140737488355328)) (.done (Qxm p0 p1.toNat))
theorem k23(p0:ze)(p1:Int)(r:ze)(h:(g23 p0 p1).run=some r):QR Tryz.prog GG 23 [.str p0,.int .i64 p1] (Qm []) (.str r) (Qm []):=by
 obtain⟨h1,rfl⟩:=CR h;have h1:=of_decide_eq_true h1;refine Hw (λγ w av hc=>?_) λ_ _ _ _=>.data (.str _);obtain⟨a,b,rfl,ha,hb⟩:=RI hc;obtain rfl:=ha.QM;obtain rfl:=hb.Qf;have e:(p1.toNat:Int)=p1:=by omega
 have:=Any.strings_Repeat Tryz.Kj Tryz.jnX p0 p1.toNat w (by omega) h1.2.2;rw[e] at this;exact this
def BR(p0:ze)(p1:Int):Sp ze:=⟨23,[.str p0,.int .i64 p1],[],(g23 p0 p1).run,λr=>.str r,λ_=>[],[],λ_ _ h=>by simp at h,λr h=>k23 p0 p1 r h⟩
theorem eS(l:List ze):(List.map Z7.c l).flatten=l.map V.str:=by
 induction l with
 | nil=>rfl
 | cons x l ih=>exact congrArg (V.str x :: ·) ih
def KU(l:List ze)(s:ze):ze:=⟨(Lib.join (l.map (·.data.toList)) s.data.toList).toArray⟩
def rH(p0:List ze)(p1:ze):TT ze:=.Ql 0 (decide (p0.length<=140737488355328/\(KU p0 p1).size<=140737488355328)) (.done (KU p0 p1))
theorem Qi9(p0:List ze)(p1:ze)(r:ze)(h:(rH p0 p1).run=some r):QR Tryz.prog GG 152 [.sl false 1 (List.map Z7.c p0),.str p1] (Qm []) (.str r) (Qm []):=by
 obtain⟨h1,rfl⟩:=CR h;have h1:=of_decide_eq_true h1;refine Hw (λγ w av hc=>?_) λ_ _ _ _=>.data (.str _);obtain⟨a,b,rfl,ha,hb⟩:=RI hc;obtain rfl:=hb.QM;rcases ha.HR with⟨a,rfl,e⟩|⟨B,o,cap,vs,rfl,k1,k2,k3,k4⟩
 ·obtain rfl:p0=[]:=by simpa using e
  exact(Any.strings_Join_none Tryz.FL Tryz.jnX a 0 p1 w).mono λe w' ⟨he,hw⟩=>⟨he,hw▸RowKit.Below.refl _ _⟩
 ·rw[eS] at k3 k4;rw[wF] at k1 ⊢;have hc:∀(j:Nat) x,p0[j]?=some x->w.cell? ⟨B,o+j,none⟩=some (.string x):=λj x hx=>by
   have e:(p0.map V.str)[j]?=some (V.str x):=by grind
   have h2:=(k3 j _ e).2
   have h3:vs j=.string x:=Qz.QM (γ:=γ) (w:=w) (bs:=Qm []) (u:=Qw) (.data (k4 j _ e));rw[h3] at h2;exact h2
  by_cases h0:p0=[]
  ·subst h0;exact(Any.strings_Join_none Tryz.FL Tryz.jnX _ cap p1 w).mono λe w' ⟨he,hw⟩=>⟨he,hw▸RowKit.Below.refl _ _⟩
  ·obtain⟨x,l,rfl⟩:=List.exists_cons_of_ne_nil h0;have hB:B < w.heap.size:=World.block_lt_of_cell? _ _ (hc 0 x rfl);refine Any.strings_Join Tryz.FL Tryz.jnX B o cap (x :: l) p1 w hc hB h1.1 k1 ?_;grind [KU,ByteArray.size]
def Qxu(p0:List ze)(p1:ze):Sp ze:=⟨152,[Sl 1 Z7 p0,.str p1],[],(rH p0 p1).run,λr=>.str r,λ_=>[],[],λ_ _ h=>by simp at h,λr h=>Qi9 p0 p1 r h⟩
def Qyb(p0 p1:Int):TT (ze):=.cl 1003 (tE p0 p1) λr440=>.done r440.1
def Ng(p0 p1:Int):Sp (ze):=oF [0,1,4,5] Tryz.func194 [.i p0,.i p1] (Qyb p0 p1) (λr=>.str r)
def Qml(p0:Z6):TT (ze×Int):=.cl 1002 (OK p0) λr439=>.br 0 (!r439) (.done (zg,180)) (.cl 3003 (Ng 6 p0.fP) λr441=>.Ql 3004 (decide ((bs [102,100,1]).size+r441.size<=9223372036854775807)) (.cl 3007 (Ng 6 p0.fC) λr442=>.Ql 3008 (decide (((bs [102,100,1])++r441).size+r442.size<=9223372036854775807)) (.cl 3011 (Ng 6 p0.fB) λr443=>.Ql 3012 (decide ((((bs [102,100,1])++r441)++r442).size+r443.size<=9223372036854775807)) (.cl 3016 (Ng 1 (p0.fp.size:Int)) λr444=>.Ql 3017 (decide (((((bs [102,100,1])++r441)++r442)++r443).size+r444.size<=9223372036854775807)) (.Ql 3020 (decide ((((((bs [102,100,1])++r441)++r442)++r443)++r444).size+p0.fp.size<=9223372036854775807)) (.Ql 3023 (decide (((((((bs [102,100,1])++r441)++r442)++r443)++r444)++p0.fp).size+p0.fH.size<=9223372036854775807)) (.done ((((((((bs [102,100,1])++r441)++r442)++r443)++r444)++p0.fp)++p0.fH),0))))))))
def jF(p0:Z6):Sp (ze×Int):=oF [0,1,2,3,6] Tryz.func143 [.agg [.str p0.fp,.str p0.fH,.i p0.fC,.i p0.fB,.i p0.fP]] (Qml p0) (λr=>.Qc [.str r.1,.i r.2])
noncomputable def VS:Code:=(cB (cR (cL (cR (cR (cR (cR (Tryz.f92.body.getD .skip))))))))
def aR:Code:=MF VS
def Gc:List (Nat×V):=[(7,.ptr 1000007 0 0),(20,.fn 206 [] [.ptr 1700070 0 0])]
def PrL(y:(List ze))(s:ze):List (Nat×Qd):=[(1000007,⟨1,true,[[.ref 1900070 0 y.length]]⟩),(1700070,⟨1,true,[[.str s]]⟩)]
def Gb(ts:List (Nat×V))(y:(List ze))(s:ze):Ext:=Ext.of .normal ts (PrL y s) [BT.of 1900070 Z7 1 y true] (by rfl)
def Vc(y:(List ze))(s:ze)(v:Int):TT ((List ze)):=
 .Ql 6004 (decide (0<=(Qk (Int.tdiv v 16))/\(Qk (Int.tdiv v 16)) < ((bs [48,49,50,51,52,53,54,55,56,57,65,66,67,68,69,70]).size:Int))) (.Ql 6007 (decide (0<=(Int.tmod v 16)/\(Int.tmod v 16) < ((bs [48,49,50,51,52,53,54,55,56,57,65,66,67,68,69,70]).size:Int))) (.app 6011 Z7 y [(strOfNums [(QQ (bs [48,49,50,51,52,53,54,55,56,57,65,66,67,68,69,70]) (Qk (Int.tdiv v 16))),(QQ (bs [48,49,50,51,52,53,54,55,56,57,65,66,67,68,69,70]) (Int.tmod v 16))])] 16 false (by intro h;cases h) (.done (y++[(strOfNums [(QQ (bs [48,49,50,51,52,53,54,55,56,57,65,66,67,68,69,70]) (Qk (Int.tdiv v 16))),(QQ (bs [48,49,50,51,52,53,54,55,56,57,65,66,67,68,69,70]) (Int.tmod v 16))])]))))
theorem Qau(y:(List ze))(s:ze)(v:Int):Y1 Tryz.prog GG [7,8] 36 (I1 VS) (Gb [(7,.ptr 1000007 0 0),(8,.int .u8 v)] y s) (Vc y s v) (λ(r:(List ze))=>Ext.of .normal [] [(1000007,⟨1,true,[[.ref 32 0 r.length]]⟩),(1700070,⟨1,true,[[.str s]]⟩)] [BT.of 32 Z7 1 r true] (by rfl)):=by unfold Y1;kernel_rfl
def VB(y:(List ze))(s:ze):List (Nat×Qd):=(Gb [] y s).bs
theorem Qaj(y:(List ze))(s:ze)(v:Int):Y1 Tryz.prog GG [7,8,20,21] 36 aR (Gb ((21,.int .u8 v) :: Gc) y s) (.done ():TT Unit) (λ_=>Gb [(7,.ptr 1000007 0 0),(8,.int .u8 v)] y s):=by unfold Y1;kernel_rfl
theorem Qo4(y:(List ze))(s:ze)(v:Int):(Gb ((21,.int .u8 v) :: Gc) y s |>.D 36).st=Kl (E3 36 (Zk Gc) (Qm (VB y s))) ([21].zip [.int .u8 v]):=by
 rw[H9 (by rfl)];exact(Uh 36 Gc _ 21 (.int .u8 v)).symm
theorem Qwy(s:ze){r:(List ze)}{g:St}(h:QU GG g ((Ext.of .normal [] [(1000007,⟨1,true,[[.ref 32 0 r.length]]⟩),(1700070,⟨1,true,[[.str s]]⟩)] [BT.of 32 Z7 1 r true] (by rfl)).D 36).st):QU GG g (E3 36 (λ_=>.undef) (Qm (VB r s))):=
 QU.trans h (QU.mob (lits:=[(1000007,⟨1,true,[[.ref 32 0 r.length]]⟩),(1700070,⟨1,true,[[.str s]]⟩)]) (rest:=[]) (kd:=(BT.of 32 Z7 1 r true).k) (d:=32) (m:=1900070) (n:=36) (by decide) (by decide) (by decide) (by show ([1000007,1700070,32]:List Nat).Nodup;decide) (Ty.data _ _) (λp hp=>by cases hp) (by rfl) (by rfl))
theorem Qxl(y:(List ze))(s:ze)(v:Int){r:(List ze)}(hb:(Vc y s v).run=some r) :
  JB Tryz.prog GG 36 (Zk Gc) [21] aR (I1 VS) (Qm (VB y s)) [.int .u8 v] (λe b'=>e=.normal/\b'=Qm (VB r s)):=by
 refine⟨((Gb [(7,.ptr 1000007 0 0),(8,.int .u8 v)] y s).D 36).st,?_,?_⟩
 ·have h:=(Qaj y s v).tv Q9 (r:=()) rfl (by rfl);rw[Qo4] at h;exact h
 ·refine((Qau y s v).tv Q9 hb (by rfl)).mono λe s' hg=>?_;obtain⟨rfl,g⟩:=hg;exact⟨_,36,⟨rfl,rfl⟩,Qwy s g⟩
section
variable (l:Nat) (y:(List ze)) (s:ze) (i:Int)
def aN:List (Nat×V):=[(0,.QP l),(1,.ptr 1700070 0 0),(3,.int .i64 i)]
def PrC:Ext:=Gb (aN l i) y s
def PrD(r:Option Int):Ext:=match r with
 | some c=>Gb (aN l i++[(8,.bool true),(9,.QP l),(12,.int .u8 c)]) y s
 | none=>Gb (aN l i++[(8,.bool false)]) y s
theorem Qak:Y1 Tryz.prog GG [0,1,3] 17 (cL Bg) (Gb [(0,.QP l),(1,.ptr 1700070 0 0)] y s) (.done ():TT Unit) (λ_=>PrC l y s 0):=by unfold Y1;kernel_rfl
theorem Qaw:K0 Tryz.prog GG [0,1,3,8,9,12] 17 1 pQ 9 (PrC l y s i) (VQ s i) (PrD l y s i):=by unfold K0;kernel_rfl
theorem Qah:Y1 Tryz.prog GG [0,1,3] 17 aR1 (PrC l y s i) (.done ():TT Unit) (λ_=>PrC l y s (Q0 (i+1))):=by unfold Y1;kernel_rfl
end
def KC(s:ze)(x:(List ze)×Int):Option (((List ze)×Int)⊕((List ze)⊕Unit)):=
 match (VQ s x.2).run with
 | none=>none
 | some none=>some (.inr (.inl x.1))
 | some (some c)=>match (Vc x.1 s c).run with
  | some y=>some (.inl (y,Q0 (x.2+1)))
  | none=>none
def mPr(y:(List ze))(s:ze):Option ((List ze)⊕Unit):=A8 (KC s) Yp (y,0)
def yPr:YL:=⟨36,Zk Gc,#[21],aR,I1 VS⟩
def oPr(s:ze):((List ze)⊕Unit)->Exit->(zj)->Prop
 | .inl r,e,bw=>e=.normal/\bw=Qm (VB r s)
 | .inr _,e,bw=>e=.ret/\∃r,bw=Qm (VB r s)
theorem Qy5(y:(List ze))(s:ze){r:(List ze)⊕Unit}(h:mPr y s=some r) :
    UW Tryz.prog GG Bg 17 (λl=>[.QP l,.ptr 1700070 0 0]) (Qm (VB y s)) yPr (oPr s r):=by
  refine UW.of λl=>?_;have e0:U4 17 [.QP l,.ptr 1700070 0 0] (Qm (VB y s))=((Gb (U7 [.QP l,.ptr 1700070 0 0]) y s).D 17).st:=(B6 (x:=Gb (U7 [.QP l,.ptr 1700070 0 0]) y s) (by rfl) (by rfl) 17).symm;rw[e0,eAl];show YT _ _ _ _ _ ⟨.normal,((Gb [(0,.QP l),(1,.ptr 1700070 0 0)] y s).D 17).st⟩ _;refine YT.seq (YT.piece (Qak l y s) Q9 rfl (by rfl) λq g=>?_);show YT _ _ _ _ _ _ _;refine YT.XY g (YT.block ?_);refine YT.loop (λm st=>st.x=.normal/\∃z:(List ze)×Int,QU GG st.st ((PrC l z.1 s z.2).D 17).st/\A8 (KC s) m z=some r) (λm st hI=>?_) (n:=Yp) ⟨rfl,(y,0),QU.same _,h⟩;obtain⟨x,st⟩:=st;obtain⟨rfl,⟨v,i⟩,g,hit⟩:=hI;refine YT.XY g ?_;cases m with
  | zero=>simp[A8] at hit
  | succ m=>
    rw[ZH] at hit;rw[eAL];cases h4:(VQ s i).run with
    | none => have hs0 : KC s (v, i) = none := by unfold KC; simp only [h4]
              rw[hs0] at hit;simp at hit
    | some c=>
    refine YT.seq (YT.seq (YT.region ?_));show J3 _ _ _ _ _ ([0,1,2,3,4,5,6,7,8]++[9,10]) _ _;refine J3.tv ((Qaw l v s i).tv Q9 h4 (by cases c<;>rfl)) λe st hq'=>⟨by rw[hq'.1];cases c<;>rfl,J3.XY hq'.2 ?_⟩;cases c with
    | none=>
      have hs0:KC s (v,i)=some (.inr (.inl v)):=by unfold KC;simp only[h4]
      rw[hs0] at hit;obtain rfl:_=r:=wh hit;show J3 _ _ _ _ _ _ ⟨.normal,((Gb (aN l i++[(8,.bool false)]) v s).D 17).st⟩ _;refine J3.step rfl (J3.step rfl (J3.nil ?_));show YT _ _ _ _ _ _ _;refine YT.cond (b:=false) rfl (YT.exit ?_);refine⟨.inl rfl,17,Zk (aN l i++[(8,V.bool false),(14,V.bool false)]),Qm (VB v s),?_,rfl,rfl⟩;rw[show E3 17 (Zk (aN l i++[(8,V.bool false),(14,V.bool false)])) (Qm (VB v s))=((Gb (aN l i++[(8,V.bool false),(14,V.bool false)]) v s).D 17).st from(H9 (x:=Gb (aN l i++[(8,V.bool false),(14,V.bool false)]) v s) (by rfl) 17).symm];exact W4 (Gb (aN l i++[(8,V.bool false),(14,V.bool false)]) v s) (by rfl) rfl ⟨by rfl,by rfl⟩
    | some c=>
      show J3 _ _ _ _ _ _ ⟨.normal,((Gb (aN l i++[(8,.bool true),(9,.QP l),(12,.int .u8 c)]) v s).D 17).st⟩ _
      have es:=H9 (x:=Gb (aN l i++[(8,V.bool true),(9,V.QP l),(12,V.int .u8 c)]) v s) (by rfl) 17;rw[es];cases h5:(Vc v s c).run with
      | some v2=>
        have hs0:KC s (v,i)=some (.inl (v2,Q0 (i+1))):=by unfold KC;simp only[h4,h5]
        rw[hs0] at hit;refine J3.KO (hi:=rfl) rfl rfl rfl rfl rfl rfl rfl (λi=>O9 (by rfl) i) (λi=>O9 (by rfl) i) (λp hp=>?_) rfl (Qxl v s c h5) (λe b' h=>.inl h.1) λe b' h=>?_
        · have:p∈[21]:=hp
          simp at this;subst this;exact(by decide:21 < 36)
        obtain⟨rfl,rfl⟩:=h;refine J3.step rfl (J3.nil ?_);show YT _ _ _ _ _ _ _;refine YT.cond (b:=true) rfl (YT.skip ?_);show YT _ _ _ _ _ _ _;refine YT.seq (YT.block (YT.skip ?_));show YT _ _ _ _ _ _ _;refine YT.XY (st':=((PrC l v2 s i).D 17).st) (W4 (PrC l v2 s i) (by rfl) rfl ⟨by rfl,by rfl⟩) ?_;refine YT.piece (Qah l v2 s i) Q9 rfl (by rfl) λq g=>?_;exact⟨m,Nat.lt_succ_self m,rfl,(v2,Q0 (i+1)),g,hit⟩
      | none=>
        have hs0:KC s (v,i)=none:=by unfold KC;simp only[h4,h5]
        rw[hs0] at hit;simp at hit
def Lb(y:(List ze))(s:ze):Ext:=Ext.of .normal [(7,.ptr 7 0 0),(20,.fn 206 [] [.ptr 700070 0 0])] [(7,⟨1,true,[[.ref 900070 0 y.length]]⟩),(700070,⟨1,true,[[.str s]]⟩)] [BT.of 900070 Z7 1 y true] (by rfl)
def PrE:((List ze)⊕Unit)->Ext
 | .inl r=>Ext.of .normal [(7,.ptr 7 0 0)] [(7,⟨1,true,[[.ref 900070 0 r.length]]⟩)] [BT.of 900070 Z7 1 r true] (by rfl)
 | .inr _=>Ext.of .ret [] [] [] (by rfl)
theorem bPr(y:(List ze))(s:ze):QZ (Qm (Lb y s).bs)=Qm (VB y s):=by
 rw[UX];have:((Lb y s).bs.map λp=>(sh p.1,p.2.Qs sh))=VB y s:=by(simp only[Lb,Ext.of,List.cons_append,List.nil_append,wq,List.map_nil,BT.of,Qd.Qs,BF]);kernel_rfl
 rw[this]
theorem Qzs(y:(List ze))(s:ze){r:(List ze)⊕Unit}(h:mPr y s=some r) :
  TV Tryz.prog GG (.rangeFunc (.tmp 20) #[21] aR (I1 VS)) ((Lb y s).D 36).st (λe st=>e=(PrE r).ex/\QU GG st ((PrE r).D 36).st):=by
 have ht:(λi=>W1 sh (((Lb y s).D 36).st.t i))=Zk Gc:=by
  have:((Lb y s).D 36).st.t=Zk (Lb y s).ts:=rfl;rw[this,Zc]
  have:((Lb y s).ts.map λp=>(p.1,W1 sh p.2))=Gc:=by kernel_rfl
  rw[this]
 have hb:Tryz.f206.body=some Bg:=by kernel_rfl
 refine TV.Ar (f:=206) (fi:=Tryz.f206) (c:=Bg) (first:=[]) (caps:=[.ptr 1700070 0 0]) (R:=λe bw=>oPr s r e bw) ?_ Tryz.func206 hb (by kernel_rfl) (by kernel_rfl) ?_ (λi=>?_) ?_ ?_
 ·show some ((λi=>W1 sh (((Lb y s).D 36).st.t i)) 20)=_;rw[ht];rfl
 ·intro bq k hk;obtain⟨q,h1,rfl,_⟩:=Yg (show Qm (Lb y s).bs bq=some k from hk);show ((((Lb y s).us).contains q.1 || Qw q.1))=true;simp only[Ext.us,zZ,wj,zI];exact .inl (zM.2 ⟨q,h1,rfl⟩)
 ·have:=congrFun ht i;rw[show W1 sh (((Lb y s).D 36).st.t i)=Zk Gc i from this];exact O9 (by rfl) i
 ·have hbb:QZ ((Lb y s).D 36).st.b=Qm (VB y s):=bPr y s;rw[ht,hbb]
  have e:max Tryz.f206.ntmps (([]:List V).length+1+[V.ptr 1700070 0 0].length)=17:=by kernel_rfl
  rw[e];exact Qy5 y s h
 ·intro e b' ho;rcases r with r|r
  ·obtain⟨rfl,rfl⟩:=ho;exact⟨.inl rfl,Qm (Lb r s).bs,(bPr r s).symm,Lq (ts:=(Lb y s).ts) (bs:=[(7,⟨1,true,[[.ref 900070 0 r.length]]⟩),(700070,⟨1,true,[[.str s]]⟩)]) (tb:=[BT.of 900070 Z7 1 r true]) (us:=(Lb y s).us) (by rfl) (by rfl) (by rfl),rfl,W4 (PrE (.inl r)) (by rfl) rfl ⟨by rfl,by rfl⟩⟩
  ·obtain⟨rfl,r,rfl⟩:=ho;exact⟨.inr (.inl rfl),Qm (Lb r s).bs,(bPr r s).symm,Lq (ts:=(Lb y s).ts) (bs:=[(7,⟨1,true,[[.ref 900070 0 r.length]]⟩),(700070,⟨1,true,[[.str s]]⟩)]) (tb:=[BT.of 900070 Z7 1 r true]) (us:=(Lb y s).us) (by rfl) (by rfl) (by rfl),rfl,W4 (PrE (.inr ())) (by rfl) rfl ⟨by rfl,by rfl⟩⟩
def Qh5(y:(List ze))(s:ze):Sub Tryz.prog GG ((List ze)):=
 ⟨.rangeFunc (.tmp 20) #[21] aR (I1 VS),36,Lb y s,(match mPr y s with|some (.inl r)=>some r|_=>none),λr=>PrE (.inl r),λr h=>Qzs y s (r:=.inl r) (by
  cases hm:mPr y s with
  | none=>rw[hm] at h;cases h
  | some x=>
   rw[hm] at h;cases x with
   | inl x=>obtain rfl:=wh h;rfl
   | inr x=>cases h)⟩
def sL(p0:Z6):TT (ze):=.cl 1002 (jF p0) λr445=>.cl 2002 (s95 r445.1) λr446=>.call 4002 (vO r446.1) [] [(1,500013)] λr447=>.gh 1 (.Qs 500013 700070) (.gh 1 (.Dv 900070 7 0 1) (.sub (Qh5 [] r446.1) λr448=>.view 7002 (Qxu r448 (bs [58])) [(Zp.o 900070 Z7 r448)] λr449=>.Ql 7003 (decide ((bs [115,104,97,45,50,53,54,32]).size+r449.size<=9223372036854775807)) (.done ((bs [115,104,97,45,50,53,54,32])++r449))))
def BN(p0:Z6):Sp (ze):=oF [0,1,2,3,5,7,8,20,21] Tryz.func92 [.agg [.str p0.fp,.str p0.fH,.i p0.fC,.i p0.fB,.i p0.fP]] (sL p0) (λr=>.str r)
structure J6 where
 fh:Z6
 GU:J9
noncomputable def bZ:Code:=Tryz.f46.body.getD .skip
def Qig(s:ze):TT (Unit):=
 .done ()
def qO(s:ze):Ext:=Ext.of .normal [(0,.str s)] [] [] (by rfl)
def GX(s:ze):(Unit)->Ext:=λ(r:Unit)=>Ext.of .normal [(0,.str s),(2,.ptr 2 0 0),(3,.ptr 3 0 0)] [(2,⟨5,true,[[.str zg,.str zg,.i 0,.i 0,.i 0]]⟩),(3,⟨1,true,[[.i 0]]⟩)] [] (by rfl)
theorem Qap(s:ze):Y1 Tryz.prog GG [0,2,3] 52 (cL bZ) (qO s) (Qig s) (GX s):=by unfold Y1;kernel_rfl
def Qyp(p0:Int):TT ((Unit)⊕(Unit)):=.br 0 (p0 != 0) (.Qq 1002 (Qh.Zh 207 (.tmp 4) 5 (.agg []) (.agg #[]) rfl (by kernel_rfl)) λ_=>.Hn 1003 (.done (.inr ()))) (.done (.inl ()))
theorem Qi3(p0:Int):Hi Tryz.prog GG [0,3] Tryz.f197 [.i p0] (Ext.of .normal (U7 [.i p0]) [] [] (by rfl)) (Qyp p0) (λ(_:Unit)=>.Qc []) (λ(r:Unit)=>Ext.of .normal [] [] [] (by rfl)) (λ(r:Unit)=>K3 (.iface 207 (.agg #[]))) (λ(r:Unit)=>Ext.of .normal [] [] [] (by rfl)):=by unfold Hi;kernel_rfl
def tR(p0:Int):O8 Pg GG (Unit) (Unit):=.ofFn 197 [] Q9 Tryz.func197 rfl (λ_=>rfl) (λ_=>rfl) (Qi3 p0)
def Qj6(p0:Int)(p1:J6):TT ((ze×Int×ze)⊕(Unit)):=.cl 1006 (jX p1.GU p0) λr450=>.Qa 2002 (tR r450.2.2) [] [] (λr451=>.done (.inl (r450.2.1.fS,r450.2.1.fE,r450.1))) (λr452=>.done (.inr ()))
theorem Qiz(p0:Int)(p1:J6):Hi Tryz.prog GG [0,1,4,5,6,7] Tryz.f147 [.ptr 1000000 0 0,.i p0] (Ext.of .normal (U7 [.ptr 1000000 0 0,.i p0]) [(1000000,⟨7,true,[[.str p1.fh.fp,.str p1.fh.fH,.i p1.fh.fC,.i p1.fh.fB,.i p1.fh.fP,.str p1.GU.fS,.i p1.GU.fE]]⟩)] [] (by rfl)) (Qj6 p0 p1) (λ(r:ze×Int×ze)=>.str r.2.2) (λ(r:ze×Int×ze)=>Ext.of .normal [] [(1000000,⟨7,true,[[.str p1.fh.fp,.str p1.fh.fH,.i p1.fh.fC,.i p1.fh.fB,.i p1.fh.fP,.str r.1,.i r.2.1]]⟩)] [] (by rfl)) (λ(r:Unit)=>K3 (.iface 207 (.agg #[]))) (λ(r:Unit)=>Ext.of .normal [] [] [] (by rfl)):=by unfold Hi;kernel_rfl
def jL(p0:Int)(p1:J6):O8 Pg GG (ze×Int×ze) (Unit):=.ofFn 147 [] Q9 Tryz.func147 rfl (λ_=>rfl) (λ_=>rfl) (Qiz p0 p1)
def g85(p0:J6):TT ((ze×Int)⊕(Unit)):=.Qa 2 (jL 3 p0) [(zE,zE)] [] (λr453=>.br 0 (!decide (r453.2.2=(bs [102,100,1]))) (.Qq 1002 (Qh.Zh 207 (.tmp 5) 6 (.agg []) (.agg #[]) rfl (by kernel_rfl)) λ_=>.Hn 1003 (.done (.inr ()))) (.done (.inl (r453.1,r453.2.1)))) (λr454=>.done (.inr ()))
theorem k85(p0:J6):Hi Tryz.prog GG [0,4] Tryz.f85 [.ptr 1000000 0 0] (Ext.of .normal (U7 [.ptr 1000000 0 0]) [(1000000,⟨7,true,[[.str p0.fh.fp,.str p0.fh.fH,.i p0.fh.fC,.i p0.fh.fB,.i p0.fh.fP,.str p0.GU.fS,.i p0.GU.fE]]⟩)] [] (by rfl)) (g85 p0) (λ(r:ze×Int)=>.Qc []) (λ(r:ze×Int)=>Ext.of .normal [] [(1000000,⟨7,true,[[.str p0.fh.fp,.str p0.fh.fH,.i p0.fh.fC,.i p0.fh.fB,.i p0.fh.fP,.str r.1,.i r.2]]⟩)] [] (by rfl)) (λ(r:Unit)=>K3 (.iface 207 (.agg #[]))) (λ(r:Unit)=>Ext.of .normal [] [] [] (by rfl)):=by unfold Hi;kernel_rfl
def s85(p0:J6):O8 Pg GG (ze×Int) (Unit):=.ofFn 85 [] Q9 Tryz.func85 rfl (λ_=>rfl) (λ_=>rfl) (k85 p0)
def Qj5(p0:Int)(p1:J6):TT ((ze×Int×Int)⊕(Unit)):=.cl 1006 (jD p1.GU p0) λr451=>.Qa 2002 (tR r451.2.2) [] [] (λr452=>.done (.inl (r451.2.1.fS,r451.2.1.fE,r451.1))) (λr453=>.done (.inr ()))
theorem Qiq(p0:Int)(p1:J6):Hi Tryz.prog GG [0,1,4,5,6,7] Tryz.f148 [.ptr 1000000 0 0,.i p0] (Ext.of .normal (U7 [.ptr 1000000 0 0,.i p0]) [(1000000,⟨7,true,[[.str p1.fh.fp,.str p1.fh.fH,.i p1.fh.fC,.i p1.fh.fB,.i p1.fh.fP,.str p1.GU.fS,.i p1.GU.fE]]⟩)] [] (by rfl)) (Qj5 p0 p1) (λ(r:ze×Int×Int)=>.int .i64 r.2.2) (λ(r:ze×Int×Int)=>Ext.of .normal [] [(1000000,⟨7,true,[[.str p1.fh.fp,.str p1.fh.fH,.i p1.fh.fC,.i p1.fh.fB,.i p1.fh.fP,.str r.1,.i r.2.1]]⟩)] [] (by rfl)) (λ(r:Unit)=>K3 (.iface 207 (.agg #[]))) (λ(r:Unit)=>Ext.of .normal [] [] [] (by rfl)):=by unfold Hi;kernel_rfl
def TU(p0:Int)(p1:J6):O8 Pg GG (ze×Int×Int) (Unit):=.ofFn 148 [] Q9 Tryz.func148 rfl (λ_=>rfl) (λ_=>rfl) (Qiq p0 p1)
def g86(p0:J6):TT ((Int×ze×Int)⊕(Unit)):=.Qa 3 (TU 6 p0) [(zE,zE)] [] (λr454=>.done (.inl (r454.2.2,r454.1,r454.2.1))) (λr455=>.done (.inr ()))
theorem k86(p0:J6):Hi Tryz.prog GG [0] Tryz.f86 [.ptr 1000000 0 0] (Ext.of .normal (U7 [.ptr 1000000 0 0]) [(1000000,⟨7,true,[[.str p0.fh.fp,.str p0.fh.fH,.i p0.fh.fC,.i p0.fh.fB,.i p0.fh.fP,.str p0.GU.fS,.i p0.GU.fE]]⟩)] [] (by rfl)) (g86 p0) (λ(r:Int×ze×Int)=>.Qc []) (λ(r:Int×ze×Int)=>Ext.of .normal [] [(1000000,⟨7,true,[[.str p0.fh.fp,.str p0.fh.fH,.i p0.fh.fC,.i p0.fh.fB,.i r.1,.str r.2.1,.i r.2.2]]⟩)] [] (by rfl)) (λ(r:Unit)=>K3 (.iface 207 (.agg #[]))) (λ(r:Unit)=>Ext.of .normal [] [] [] (by rfl)):=by unfold Hi;kernel_rfl
def s86(p0:J6):O8 Pg GG (Int×ze×Int) (Unit):=.ofFn 86 [] Q9 Tryz.func86 rfl (λ_=>rfl) (λ_=>rfl) (k86 p0)
def g87(p0:J6):TT ((Int×ze×Int)⊕(Unit)):=.Qa 3 (TU 6 p0) [(zE,zE)] [] (λr452=>.done (.inl (r452.2.2,r452.1,r452.2.1))) (λr453=>.done (.inr ()))
theorem k87(p0:J6):Hi Tryz.prog GG [0] Tryz.f87 [.ptr 1000000 0 0] (Ext.of .normal (U7 [.ptr 1000000 0 0]) [(1000000,⟨7,true,[[.str p0.fh.fp,.str p0.fh.fH,.i p0.fh.fC,.i p0.fh.fB,.i p0.fh.fP,.str p0.GU.fS,.i p0.GU.fE]]⟩)] [] (by rfl)) (g87 p0) (λ(r:Int×ze×Int)=>.Qc []) (λ(r:Int×ze×Int)=>Ext.of .normal [] [(1000000,⟨7,true,[[.str p0.fh.fp,.str p0.fh.fH,.i r.1,.i p0.fh.fB,.i p0.fh.fP,.str r.2.1,.i r.2.2]]⟩)] [] (by rfl)) (λ(r:Unit)=>K3 (.iface 207 (.agg #[]))) (λ(r:Unit)=>Ext.of .normal [] [] [] (by rfl)):=by unfold Hi;kernel_rfl
def s87(p0:J6):O8 Pg GG (Int×ze×Int) (Unit):=.ofFn 87 [] Q9 Tryz.func87 rfl (λ_=>rfl) (λ_=>rfl) (k87 p0)
def g88(p0:J6):TT ((Int×ze×Int)⊕(Unit)):=.Qa 3 (TU 6 p0) [(zE,zE)] [] (λr453=>.done (.inl (r453.2.2,r453.1,r453.2.1))) (λr454=>.done (.inr ()))
theorem k88(p0:J6):Hi Tryz.prog GG [0] Tryz.f88 [.ptr 1000000 0 0] (Ext.of .normal (U7 [.ptr 1000000 0 0]) [(1000000,⟨7,true,[[.str p0.fh.fp,.str p0.fh.fH,.i p0.fh.fC,.i p0.fh.fB,.i p0.fh.fP,.str p0.GU.fS,.i p0.GU.fE]]⟩)] [] (by rfl)) (g88 p0) (λ(r:Int×ze×Int)=>.Qc []) (λ(r:Int×ze×Int)=>Ext.of .normal [] [(1000000,⟨7,true,[[.str p0.fh.fp,.str p0.fh.fH,.i p0.fh.fC,.i r.1,.i p0.fh.fP,.str r.2.1,.i r.2.2]]⟩)] [] (by rfl)) (λ(r:Unit)=>K3 (.iface 207 (.agg #[]))) (λ(r:Unit)=>Ext.of .normal [] [] [] (by rfl)):=by unfold Hi;kernel_rfl
def s88(p0:J6):O8 Pg GG (Int×ze×Int) (Unit):=.ofFn 88 [] Q9 Tryz.func88 rfl (λ_=>rfl) (λ_=>rfl) (k88 p0)
def g89(p0:J6):TT ((ze×ze×Int)⊕(Unit)):=.Qa 4 (TU 1 p0) [(zE,zE)] [] (λr454=>.Qa 5 (jL r454.2.2 (J6.mk p0.fh (J9.mk r454.1 r454.2.1))) [(zE,zE)] [] (λr455=>.done (.inl (r455.2.2,r455.1,r455.2.1))) (λr456=>.done (.inr ()))) (λr457=>.done (.inr ()))
theorem k89(p0:J6):Hi Tryz.prog GG [0] Tryz.f89 [.ptr 1000000 0 0] (Ext.of .normal (U7 [.ptr 1000000 0 0]) [(1000000,⟨7,true,[[.str p0.fh.fp,.str p0.fh.fH,.i p0.fh.fC,.i p0.fh.fB,.i p0.fh.fP,.str p0.GU.fS,.i p0.GU.fE]]⟩)] [] (by rfl)) (g89 p0) (λ(r:ze×ze×Int)=>.Qc []) (λ(r:ze×ze×Int)=>Ext.of .normal [] [(1000000,⟨7,true,[[.str r.1,.str p0.fh.fH,.i p0.fh.fC,.i p0.fh.fB,.i p0.fh.fP,.str r.2.1,.i r.2.2]]⟩)] [] (by rfl)) (λ(r:Unit)=>K3 (.iface 207 (.agg #[]))) (λ(r:Unit)=>Ext.of .normal [] [] [] (by rfl)):=by unfold Hi;kernel_rfl
def s89(p0:J6):O8 Pg GG (ze×ze×Int) (Unit):=.ofFn 89 [] Q9 Tryz.func89 rfl (λ_=>rfl) (λ_=>rfl) (k89 p0)
def g90(p0:J6):TT ((ze×ze×Int)⊕(Unit)):=.Qa 3 (jL 32 p0) [(zE,zE)] [] (λr455=>.done (.inl (r455.2.2,r455.1,r455.2.1))) (λr456=>.done (.inr ()))
theorem k90(p0:J6):Hi Tryz.prog GG [0] Tryz.f90 [.ptr 1000000 0 0] (Ext.of .normal (U7 [.ptr 1000000 0 0]) [(1000000,⟨7,true,[[.str p0.fh.fp,.str p0.fh.fH,.i p0.fh.fC,.i p0.fh.fB,.i p0.fh.fP,.str p0.GU.fS,.i p0.GU.fE]]⟩)] [] (by rfl)) (g90 p0) (λ(r:ze×ze×Int)=>.Qc []) (λ(r:ze×ze×Int)=>Ext.of .normal [] [(1000000,⟨7,true,[[.str p0.fh.fp,.str r.1,.i p0.fh.fC,.i p0.fh.fB,.i p0.fh.fP,.str r.2.1,.i r.2.2]]⟩)] [] (by rfl)) (λ(r:Unit)=>K3 (.iface 207 (.agg #[]))) (λ(r:Unit)=>Ext.of .normal [] [] [] (by rfl)):=by unfold Hi;kernel_rfl
def s90(p0:J6):O8 Pg GG (ze×ze×Int) (Unit):=.ofFn 90 [] Q9 Tryz.func90 rfl (λ_=>rfl) (λ_=>rfl) (k90 p0)
def Xe(s:ze):TT ((ze×ze×Int×Int×Int×Int)⊕(Unit)):=
 .tt (.Qa 6002 (s85 (J6.mk (Z6.mk zg zg 0 0 0) (J9.mk s 0))) [(1000000,11)] [] (λr450=>
  .tt (.Qa 6002 (s86 (J6.mk (Z6.mk zg zg 0 0 0) (J9.mk r450.1 r450.2))) [(1000000,11)] [] (λr451=>
   .tt (.Qa 6002 (s87 (J6.mk (Z6.mk zg zg 0 0 r451.1) (J9.mk r451.2.1 r451.2.2))) [(1000000,11)] [] (λr452=>
    .tt (.Qa 6002 (s88 (J6.mk (Z6.mk zg zg r452.1 0 r451.1) (J9.mk r452.2.1 r452.2.2))) [(1000000,11)] [] (λr453=>
     .tt (.Qa 6002 (s89 (J6.mk (Z6.mk zg zg r452.1 r453.1 r451.1) (J9.mk r453.2.1 r453.2.2))) [(1000000,11)] [] (λr454=>
      .tt (.Qa 6002 (s90 (J6.mk (Z6.mk r454.1 zg r452.1 r453.1 r451.1) (J9.mk r454.2.1 r454.2.2))) [(1000000,11)] [] (λr455=>
       .ff (.Zz 8 [46]
       (.br 8010 (r455.2.2 != (s.size:Int))
        (.done true)
        (.cl 8014 (OK (Z6.mk r454.1 r455.1 r452.1 r453.1 r451.1)) λr456=>
         .done (!r456)))
       zm λc457=>
       .br 0 c457
       (.done (.inl (zg,zg,0,0,0,5)))
       (.done (.inl (r454.1,r455.1,r452.1,r453.1,r451.1,0)))))
      (λr458=>
       .done (.inr ()))))
     (λr459=>
      .done (.inr ()))))
    (λr460=>
     .done (.inr ()))))
   (λr461=>
    .done (.inr ()))))
  (λr462=>
   .done (.inr ()))))
 (λr463=>
  .done (.inr ())))
def qI(s:ze):Ext:=Ext.of .normal [(0,.str s),(2,.ptr 1000002 0 0),(3,.ptr 1000003 0 0),(7,.fn 84 [] [.ptr 1000002 0 0,.ptr 1000003 0 0])] [(1000002,⟨5,true,[[.str zg,.str zg,.i 0,.i 0,.i 0]]⟩),(1000003,⟨1,true,[[.i 0]]⟩)] [] (by rfl)
def Pl(s:ze)(r:ze×ze×Int×Int×Int×Int):Ext:=Ext.of .ret [(2,.ptr 1000002 0 0),(3,.ptr 1000003 0 0)] [(1000002,⟨5,true,[[.str r.1,.str r.2.1,.i r.2.2.1,.i r.2.2.2.1,.i r.q.1]]⟩),(1000003,⟨1,true,[[.i r.q.2]]⟩)] [] (by rfl)
def Po(s:ze)(r:Unit):Ext:=Ext.of (.panic (K3 (.iface 207 (.agg #[])))) [(2,.ptr 1000002 0 0),(3,.ptr 1000003 0 0)] [(1000002,⟨5,true,[[.str zg,.str zg,.i 0,.i 0,.i 0]]⟩),(1000003,⟨1,true,[[.i 0]]⟩)] [] (by rfl)
theorem Qar(s:ze):Y1 Tryz.prog GG [0,2,3,4,6,7,24,25,26,46] 52 (cR (cR bZ)) (qI s) (Xe s) (Sum.elim (Pl s) (Po s)):=by unfold Y1;kernel_rfl
def bH:Array Oper:=Oq (cL (cR bZ))
def RX:Oper:=(bH[0]?).get (by kernel_rfl)
def xG:Oper:=(bH[1]?).get (by kernel_rfl)
theorem eBd:Tryz.f46.body=some ([cL bZ].foldr Code.seq (.seq (.region 1 #[RX,xG] false) (cR (cR bZ)))):=by kernel_rfl
noncomputable def cBc:Code:=Tryz.f84.body.getD .skip
def bK:Array Oper:=Oq (cL cBc)
def Qoq:Oper:=(bK[0]?).get (by kernel_rfl)
def Qo9:Oper:=(bK[1]?).get (by kernel_rfl)
theorem eBc:Tryz.f84.body=some (.seq (.region 0 #[Qoq,Qo9] false) (cR cBc)):=by kernel_rfl
def xI:Value:=.iface 207 (.agg #[])
abbrev BU:=ze×ze×Int×Int×Int×Int
def zBd:BU:=(zg,zg,0,0,0,0)
def UU(r:BU):List (Nat×Qd):=[(1000002,⟨5,true,[[.str r.1,.str r.2.1,.int .i64 r.2.2.1,.int .i64 r.2.2.2.1,.int .i64 r.q.1]]⟩),(1000003,⟨1,true,[[.int .i64 r.q.2]]⟩)]
def WJ:List V:=[.ptr 1000002 0 0,.ptr 1000003 0 0]
def iR(v:Value)(h:Wl v=true)(r:BU):Ext:=Ext.of .normal [(0,.ptr 1000002 0 0),(1,.ptr 1000003 0 0),(2,.Zh v),(3,.Zh v)] (UU r) [] (by rfl)
def Qir:TT Unit:=.Qq 1002 (Qh.Qza (ms:=#[]) 20 20 (.tmp 4) 5 (by kernel_rfl)) λ_=>.ff (.done ())
theorem Qab(r:BU):Y1 Tryz.prog GG [0,1,2,3,5] 7 (cR cBc) (iR .nilIface rfl r) Qir (λ_=>Ext.of .normal [] (UU r) [] (by rfl)):=by unfold Y1;kernel_rfl
def Qin:TT Unit:=.Qq 1002 (Qh.nQ 20 20 (.tmp 4) 5 207 (.agg #[]) (by kernel_rfl)) λ_=>.tt (.done ())
theorem Qas(r:BU):Y1 Tryz.prog GG [0,1,2,3,5] 7 (cR cBc) (iR xI rfl r) Qin (λ_=>Ext.of .normal [] (UU (zg,zg,0,0,0,5)) [] (by rfl)):=by unfold Y1;kernel_rfl
theorem RA(r:BU):∀b k,Qm (UU r) b=some k->X6 b=true:=λb k h=>by
 obtain⟨p,h1,rfl,_⟩:=Yg h;simp only[UU,zV,wa,or_false] at h1;rcases h1 with rfl|rfl
 ·grind [X6]
 grind [X6]
theorem bdD{u u':FrameMode}{rv:Value}{r r':BU}{x x':Ext}{kp:List Nat}{g:TT Unit}(hi:Wl rv=true)(hr:WM u rv u')(k:Y1 Tryz.prog GG kp 7 (cR cBc) x g (λ_=>x'))(hg:g.run=some ())(hok:x'.ok=true)(hex:x'.ex=.normal)
  (h0:QU GG (((U4 7 WJ (Qm (UU r))).put (some 3) (.Zh rv)).put (some 2) (.Zh rv)) (x.D 7).st) (hb:x'.bs=UU r') :
  Lt Tryz.prog GG 84 WJ (Qm (UU r)) u u' (Qm (UU r')):=by
 refine Bl (n:=7) (t1:=3) (t2:=2) (rv:=rv) Tryz.func84 eBc (by kernel_rfl) (by kernel_rfl) (by kernel_rfl) (by kernel_rfl) (by kernel_rfl) (by kernel_rfl) (by kernel_rfl) (by decide) (by decide) hi hr (by kernel_rfl) ?_;have h:=k.tv Q9 (r:=()) hg hok;exact(TV.ghost h0 h).mono λe s hq=>⟨.inl (hq.1.trans hex),_,hq.2,λb k hk=>by rw[<-hb] at hk;exact hk⟩
theorem Qd2(r:BU):Lt Tryz.prog GG 84 WJ (Qm (UU r)) .returning .returning (Qm (UU r)):=
 bdD rfl (.inl ⟨rfl,rfl,rfl⟩) (Qab r) rfl (by rfl) rfl (W4 (iR .nilIface rfl r) (by rfl) rfl ⟨by rfl,by rfl⟩) rfl
theorem Qd3(r:BU):Lt Tryz.prog GG 84 WJ (Qm (UU r)) (.panicking (K3 xI)) (.panicking [{ v:=xI,recovered:=true }]) (Qm (UU (zg,zg,0,0,0,5))):=
 bdD rfl (.inr ⟨xI,[],rfl,rfl,rfl⟩) (Qas r) rfl (by rfl) rfl (W4 (iR xI rfl r) (by rfl) rfl ⟨by rfl,by rfl⟩) rfl
def bdV(r:BU):V:=.Qc [.agg [.str r.1,.str r.2.1,.int .i64 r.2.2.1,.int .i64 r.2.2.2.1,.int .i64 r.q.1],.int .i64 r.q.2]
def HK(s:ze):Ext:=Ext.of .normal [(0,.str s),(2,.ptr 1000002 0 0),(3,.ptr 1000003 0 0)] (UU zBd) [] (by rfl)
def xP:V:=.fn 84 [] WJ
theorem Qd0{x:Ext}(h:x.us=[1000002,1000003]):(x.D 52).st.u=Qw:=funext λb=>by
 show (x.us.contains b || Qw b)=Qw b;rw[h];by_cases h1:b=1000002
 ·subst h1;rfl
 ·by_cases h2:b=1000003
  ·subst h2;rfl
  grind
theorem xR(s:ze){q:BU⊕Unit}{x:Ext}{u u':FrameMode}{r r':BU}(hx:Sum.elim (Pl s) (Po s) q=x)(h2:(Xe s).run=some q)(hok:x.ok=true)(hl:Go.EV.Left u x.ex)(hbs:(x.D 52).st.b=Qm (UU r))(hus:x.us=[1000002,1000003])
  (hD:Lt Tryz.prog GG 84 WJ (Qm (UU r)) u u' (Qm (UU r'))) (hu:settle u'=.returning)
  (hres:L7 Tryz.prog ⟨52,(x.D 52).st.t,Qm (UU r'),λ_=>true⟩ Tryz.f46.results.toList=some (bdV r')) :
  QR Tryz.prog GG 46 [.str s] (Qm []) (bdV r') (Qm []):=by
 subst hx;have e0:U4 52 [.str s] (Qm [])=((qO s).D 52).st:=(B6 (x:=qO s) (by rfl) (by rfl) 52).symm;have t0:=(Qap s).tv Q9 (r:=()) rfl (by rfl);have t2:=(Qar s).tv Q9 h2 hok;have hnoB:(Qm []:zj)=Oh:=rfl;rw[hnoB] at e0 ⊢;have hsh:QU GG ((GX s ()).D 52).st.shift ((HK s).D 52).st:=by
  have eT:((GX s ()).ts.map λp=>(p.1,W1 sh p.2))=(HK s).ts:=by kernel_rfl
  have eB:((GX s ()).bs.map λp=>(sh p.1,p.2.Qs sh))=(HK s).bs:=by kernel_rfl
  rw[Up,eT,eB];exact W4 (HK s) (by rfl) rfl ⟨by rfl,by rfl⟩
 have st5:B8 Tryz.prog GG #[RX,xG] 0 ((HK s).D 52).st (((HK s).D 52).st.put (some 7) xP):=Zv (by rfl)
 have g0:E0 #[RX,xG] ((HK s).D 52).st RX=some true:=by rfl
 have h0:I7 Tryz.prog GG RX ((HK s).D 52).st (((HK s).D 52).st.put (some 7) xP):=by
  unfold B8 at st5;simp only[show (#[RX,xG]:Array Oper)[0]?=some RX from rfl] at st5;rcases st5 with⟨_,h⟩|⟨h,_⟩
  ·exact h
  ·rw[g0] at h;simp at h
 have gB:QU GG (((HK s).D 52).st.put (some 7) xP) ((qI s).D 52).st:=W4 (qI s) (by rfl) rfl ⟨by rfl,by rfl⟩;refine RW (As:=[cL bZ]) (rest:=cR (cR bZ)) (rid:=1) (t:=7) (n:=52) (o0:=RX) (o1:=xG) (caps:=WJ) (insD:=Qm (UU r)) (outsD:=Qm (UU r')) (S0:=((GX s ()).D 52).st) (S1:=((HK s).D 52).st) (S2:=((Sum.elim (Pl s) (Po s) q).D 52).st) (u:=u) (u':=u')
  Tryz.func46 eBd (by kernel_rfl) ?_ hsh h0 g0 (by kernel_rfl) (by kernel_rfl) (by rfl) (TV.ghost gB t2) hl (λc hc=>?_) (show 7 < 52 by decide) ⟨hbs,Qd0 hus⟩ ⟨RA r,RA r'⟩ Tryz.func84 (by kernel_rfl) (by kernel_rfl) hD hu hres
  λγ w v h=>Qz.Is (γ:=γ) (γ':=γ.Qi) (λB o v h1 h2=>⟨h1,h2⟩) h (by rfl)
 ·rw[e0];show TV _ _ (cL bZ) _ _;exact t0
 ·simp only[WJ,zV,wa,or_false] at hc;rcases hc with rfl|rfl
  ·exact⟨1000002,_,rfl,by decide,rfl⟩
  ·exact⟨1000003,_,rfl,by decide,rfl⟩
def bW(s:ze):Option BU:=match (Xe s).run with
 | some (.inl r)=>some r
 | some (.inr _)=>some (zg,zg,0,0,0,5)
 | none=>none
theorem Qd1(s:ze){r:BU}(h:bW s=some r):QR Tryz.prog GG 46 [.str s] (Qm []) (bdV r) (Qm []):=by
 unfold bW at h;split at h
 ·rename_i q hq;obtain rfl:=wh h;exact xR s (r:=q) (r':=q) rfl hq (by rfl) (.inl ⟨rfl,rfl⟩) rfl rfl (Qd2 q) rfl (by kernel_rfl)
 ·rename_i q hq;obtain rfl:=wh h;exact xR s (r:=zBd) rfl hq (by rfl) (.inr (.inr ⟨_,rfl,rfl⟩)) rfl rfl (Qd3 zBd) rfl (by kernel_rfl)
 ·cases h
def s46(p0:ze):Sp (Z6×Int):=⟨46,[.str p0],[],(bW p0).map λr=>(⟨r.1,r.2.1,r.2.2.1,r.2.2.2.1,r.q.1⟩,r.q.2),λr=>bdV (r.1.fp,r.1.fH,r.1.fC,r.1.fB,r.1.fP,r.2),λ_=>[],[],λ_ _ h=>by simp at h,λr h=>by obtain⟨q,hq,rfl⟩:=zF.1 h;exact Qd1 p0 hq⟩
def g47(p0:Z6):TT (ze×Int):=.cl 1002 (OK p0) λr464=>.br 0 (!r464) (.done (zg,180)) (.cl 3002 (BN p0) λr465=>.done (r465,0))
def cC(p0:Z6):Sp (ze×Int):=oF [0,1,2,3,6] Tryz.func47 [.agg [.str p0.fp,.str p0.fH,.i p0.fC,.i p0.fB,.i p0.fP]] (g47 p0) (λr=>.Qc [.str r.1,.i r.2])
def Qe5(p0:ze):TT (Bool):=.cl 1002 (s46 p0) λr466=>.done (r466.2==0)
def lZ(p0:ze):Sp (Bool):=oF [0,2,4] Tryz.func117 [.str p0] (Qe5 p0) (λr=>.bool r)
def Qk1(p0:ze):TT (Bool):=.cl 1002 (Fy p0) λr470=>.done (!r470)
def tQ(p0:ze):Sp (Bool):=oF [0,2] Tryz.func268 [.str p0] (Qk1 p0) (λr=>.bool r)
def Qm8(p0:List ze):TT (Int):=.QC 1 (.lp (λ(l472:Int)=>Ext.l .normal [(0,Sl 1 Z7 p0),(1,.fn 268 [] []),(4,.i 0),(7,.i (I3 Z7 p0)),(8,.i l472)] []) (λl472=>.br 0 (decide (l472 < (I3 Z7 p0))) (.row 4004 Z7 p0 l472.toNat (decide (0<=l472)) λx473=>.cl 4006 (tQ x473) λr474=>.br 0 r474 (.done (.inr (.inl l472))) (.done (.inl (Q0 (l472+1))))) (.done (.inr (.inr ())))) 0) (λ(e475:Int)=>Ext.l .ret [(4,.i e475)] []) (λ(e476:Unit)=>Ext.l (.exit 0) [(4,.i 0)] []) (λe475=>.done e475) (λe476=>.done (-1))
def vU(p0:List ze):Sp (Int):=oF [0,1,4,5,7,8,9,16] Tryz.func173 [Sl 1 Z7 p0,.fn 268 [] []] (Qm8 p0) (λr=>.int .i64 r)
def Qe8(p0:List ze):TT (Bool):=.cl 1003 (vU p0) λr477=>.done (decide ((0:Int)<=r477))
def Qq6(p0:List ze):Sp (Bool):=oF [0,1,4] Tryz.func114 [Sl 1 Z7 p0,.fn 268 [] []] (Qe8 p0) (λr=>.bool r)
def g93(p0:List ze)(p1:ze):TT (Int):=.QC 1 (.lp (λ(l482:Int)=>Ext.l .normal [(0,Sl 1 Z7 p0),(1,.str p1),(4,.i 0),(7,.i (I3 Z7 p0)),(8,.i l482)] []) (λl482=>.br 0 (decide (l482 < (I3 Z7 p0))) (.row 4004 Z7 p0 l482.toNat (decide (0<=l482)) λx483=>.br 0 (decide (p1=x483)) (.done (.inr (.inl l482))) (.done (.inl (Q0 (l482+1))))) (.done (.inr (.inr ())))) 0) (λ(e484:Int)=>Ext.l .ret [(4,.i e484)] []) (λ(e485:Unit)=>Ext.l (.exit 0) [(4,.i 0)] []) (λe484=>.done e484) (λe485=>.done (-1))
def s93(p0:List ze)(p1:ze):Sp (Int):=oF [0,1,4,5,7,8,9,16] Tryz.func93 [Sl 1 Z7 p0,.str p1] (g93 p0 p1) (λr=>.int .i64 r)
def Qk2(p0:Z6)(p1:List ze):TT (Int×Int):=.cl 1002 (OK p0) λr467=>.br 0 (!r467) (.done (0,180)) (.br 0 (decide ((8:Int) < (I3 Z7 p1))) (.done (0,3)) (.cl 5002 (Qq6 p1) λr478=>.br 0 r478 (.done (0,5)) (.cl 7003 (BN p0) λr479=>.cl 7004 (s93 p1 r479) λr486=>.br 0 (decide (r486 < 0)) (.done (0,4)) (.done (r486,0)))))
def tZ(p0:Z6)(p1:List ze):Sp (Int×Int):=oF [0,1,2,4,5,6,9,12,14,20] Tryz.func262 [.agg [.str p0.fp,.str p0.fH,.i p0.fC,.i p0.fB,.i p0.fP],Sl 1 Z7 p1] (Qk2 p0 p1) (λr=>.Qc [.i r.1,.i r.2])
def Qk7(p0:Z6)(p1:List ze)(p2:Int):TT (Int):=.cl 1003 (tZ p0 p1) λr487=>.br 0 (r487.2 != 0) (.done r487.2) (.Zz 4 [18] (.oR 4004 (decide (p2 < 0)) (.done (decide ((1099511627776:Int) < p2)))) zm λc488=>.br 0 c488 (.done 2) (.Zz 6 [25] (.oR 6006 (decide (p2 < p0.fC)) (.done (decide (p0.fB < p2)))) zm λc489=>.br 0 c489 (.done 10) (.done 0)))
def tH(p0:Z6)(p1:List ze)(p2:Int):Sp (Int):=oF [0,1,2,3,6,8,16,18,25] Tryz.func251 [.agg [.str p0.fp,.str p0.fH,.i p0.fC,.i p0.fB,.i p0.fP],Sl 1 Z7 p1,.i p2] (Qk7 p0 p1 p2) (λr=>.int .i64 r)
structure Z0 where
 fw:Int
 fX:Int
 fI:ze
structure Y0 where
 fE:Int
 fY:Int
 fL:Int
def Qeu(p0 p1:Int):TT (Bool):=.Zz 1 [4] (.an 1004 (decide ((0:Int)<=p0)) (.done (decide (p0<=p1)))) zm λc490=>.done c490
def Sj(p0 p1:Int):Sp (Bool):=oF [0,1,4] Tryz.func102 [.i p0,.i p1] (Qeu p0 p1) (λr=>.bool r)
def g58(p0:Z0):TT (Int):=.Zz 1 [18] (.cl 1003 (Sj p0.fw 255) λr491=>.oR 1006 (!r491) (.cl 1008 (Sj p0.fX 65535) λr492=>.oR 1012 (!r492) (.done (decide ((4000:Int) < (p0.fI.size:Int)))))) zm λc493=>.br 0 c493 (.done 190) (.done 0)
def s58(p0:Z0):Sp (Int):=oF [0,1,2,18] Tryz.func58 [.agg [.i p0.fw,.i p0.fX,.str p0.fI]] (g58 p0) (λr=>.int .i64 r)
def vJ(p0:Int):Sp (Int):=oF [0,2] Tryz.func175 [.i p0] (.Ql 1003 (decide ((0:Int)<=(Q0 (p0 - 1)))) (.done (if (6400:Int) < (M8 .i64 400 (Q0 (p0 - 1))) then (6400:Int) else (M8 .i64 400 (Q0 (p0 - 1))))):TT (Int)) (λr=>.int .i64 r)
def Qe4(p0:Y0):TT (Int):=.Zz 2 [31] (.an 2004 (!((p0.fE==(-1))&&((p0.fY==0)&&((p0.fL==0)&&true)))) (.oR 2008 (decide (p0.fE < 0)) (.oR 2013 (decide (p0.fL < 1)) (.oR 2018 (decide ((8:Int) < p0.fL)) (.cl 2022 (vJ p0.fL) λr494=>.done (p0.fY != r494)))))) zm λc495=>.br 0 c495 (.done 192) (.done 0)
def lQ(p0:Y0):Sp (Int):=oF [0,1,2,3,31] Tryz.func118 [.agg [.i p0.fE,.i p0.fY,.i p0.fL]] (Qe4 p0) (λr=>.int .i64 r)
def Qmu(p0:Y0)(p1:Int):TT (Bool×Int):=.cl 1002 (lQ p0) λr496=>.br 0 (r496 != 0) (.done (false,192)) (.cl 3002 (Sj p1 1099511627776) λr497=>.br 0 (!r497) (.done (false,2)) (.cl 5004 (Sj p0.fE p1) λr498=>.done (r498,0)))
def oS(p0:Y0)(p1:Int):Sp (Bool×Int):=oF [0,1,2,4,5,6,10] Tryz.func167 [.agg [.i p0.fE,.i p0.fY,.i p0.fL],.i p1] (Qmu p0 p1) (λr=>.Qc [.bool r.1,.i r.2])
def Qmj(p0:Y0)(p1:Int):TT (Y0×Int):=.cl 1003 (oS p0 p1) λr499=>.br 0 (r499.2 != 0) (.done ((Y0.mk 0 0 0),r499.2)) (.br 0 (!r499.1) (.done ((Y0.mk 0 0 0),8)) (.br 0 (p0.fL==8) (.done ((Y0.mk 0 0 0),4)) (.cl 8004 (vJ (Q0 (p0.fL+1))) λr500=>.done ((Y0.mk (Q0 (p1+r500)) r500 (Q0 (p0.fL+1))),0))))
def vM(p0:Y0)(p1:Int):Sp (Y0×Int):=oF [0,1,2,4,5,6,7,8,15,20,24] Tryz.func168 [.agg [.i p0.fE,.i p0.fY,.i p0.fL],.i p1] (Qmj p0 p1) (λr=>.Qc [.agg [.i r.1.fE,.i r.1.fY,.i r.1.fL],.i r.2])
def Qko(p0:Int):TT (Y0×Int):=.cl 1002 (Sj p0 1099511627776) λr501=>.br 0 (!r501) (.done ((Y0.mk 0 0 0),2)) (.done ((Y0.mk (Q0 (p0+400)) 400 1),0))
def tI(p0:Int):Sp (Y0×Int):=oF [0,2,3,6] Tryz.func212 [.i p0] (Qko p0) (λr=>.Qc [.agg [.i r.1.fE,.i r.1.fY,.i r.1.fL],.i r.2])
end Go.Proofs.YtjdieimefebnfaaGreatDoor
