/- Part Y9. -/
import Derived.Test.YtjdieimefebnfaaGreatDoorY8
import Derived.Shelf.Strings.Repeat
import Derived.Shelf.Strings.OnBuilder
set_option linter.unusedVariables false
set_option linter.unusedSimpArgs false
set_option maxRecDepth 100000
noncomputable section
namespace Go.Proofs.YtjdieimefebnfaaGreatDoor
open Go Go.EV
def Q5:Ty Int:=⟨λx=>[.i x],λx=>[.i x],λ_=>rfl,λ_=>rfl,λ_ _=>rfl,λ_=>rfl⟩
def Yo(o:Operand)(d b:Nat)(f:Nat->Int):Qw Tryz.prog GG Unit:=.DR 191 o d b ⟨1,true,(Y5 f).map Q5.c⟩ (.agg (V1 f)) (show 1 < Y8 by decide) (by kernel_rfl)
def HX(o v:Operand)(b:Nat)(f g:Nat->Int):Qw Tryz.prog GG Unit:=.KN (ty:=Q5) 191 o v b ⟨1,true,(Y5 f).map Q5.c⟩ (.agg (V1 g)) (Y5 g) (λ_=>rfl) (show 1 < Y8 by decide) rfl rfl rfl (by kernel_rfl) (by kernel_rfl)
def XY(d:Nat):Qw Tryz.prog GG Unit:=.Mp (ty:=Q5) 191 d (Y5 λ_=>0) (λ_=>rfl) (by kernel_rfl)
def Mt(o i:Operand)(d b:Nat)(f:Nat->Int)(n:Int):Qw Tryz.prog GG Unit:=.Yi (e:=3) 191 o i d b ⟨1,true,(Y5 f).map Q5.c⟩ 0 .i64 n 16 (by kernel_rfl) (by kernel_rfl)
def s71 :Sp (ze):=oF [0] Tryz.func71 [] (.Qz 1003 (Qw.Ul (ty:=Y3) (t:=57) (e:=5) (k:=.u8) (.const (.int .i64 31)) (.const (.int .i64 31)) 3 31 1) λ_=>.Qz 1004 (Qw.JU (ty:=Y3) (s:=57) (t:=9) (e:=5) (.tmp 3) 4 3 (List.replicate 31 (0:Int)) 31 (hn:=(by simp))) λ_=>.Qf 1005 (decide ((bs [9]).size+(strOfNums (List.replicate 31 (0:Int))).size<=9223372036854775807)) (.done ((bs [9])++(strOfNums (List.replicate 31 (0:Int))))):TT (ze)) (λr=>.str r)
def Qez(p0:ze):TT (ze):=.Qz 1002 (Qw.octets (ty:=Y3) (s:=9) (t:=57) (e:=5) (.tmp 4) 5 p0) λ_=>.Qf 2003 (decide (0<=(0:Int))&&decide ((0:Int) < ((Q3 p0).length:Int))) (.row 2004 Y3 (Q3 p0) 0 true λx292=>.Qf 2007 (decide (0<=(0:Int))&&decide ((0:Int) < ((Q3 p0).length:Int))) (.row 2008 Y3 (Q3 p0) 0 true λx293=>.re 2008 (Jd.put 5 1 Y3 (Q3 p0) 0 (Qm ((Qm (Int.tdiv x292 8)) * 8))) (.gh 5 (.len 5 (((Q3 p0).set 0 (Qm ((Qm (Int.tdiv x292 8)) * 8))).length) [(Q3 p0).length] (by simp)) (.Qf 3003 (decide (0<=(31:Int))&&decide ((31:Int) < (((Q3 p0).set 0 (Qm ((Qm (Int.tdiv x292 8)) * 8))).length:Int))) (.row 3004 Y3 ((Q3 p0).set 0 (Qm ((Qm (Int.tdiv x292 8)) * 8))) 31 true λx294=>.Qf 3007 (decide (0<=(31:Int))&&decide ((31:Int) < (((Q3 p0).set 0 (Qm ((Qm (Int.tdiv x292 8)) * 8))).length:Int))) (.row 3008 Y3 ((Q3 p0).set 0 (Qm ((Qm (Int.tdiv x292 8)) * 8))) 31 true λx295=>.re 3008 (Jd.put 5 1 Y3 ((Q3 p0).set 0 (Qm ((Qm (Int.tdiv x292 8)) * 8))) 31 (Qm ((Int.tmod x294 64)+64))) (.gh 6 (.len 5 ((((Q3 p0).set 0 (Qm ((Qm (Int.tdiv x292 8)) * 8))).set 31 (Qm ((Int.tmod x294 64)+64))).length) [((Q3 p0).set 0 (Qm ((Qm (Int.tdiv x292 8)) * 8))).length] (by simp)) (.Qz 4002 (Qw.JU (ty:=Y3) (s:=57) (t:=9) (e:=5) (.tmp 20) 21 5 (((Q3 p0).set 0 (Qm ((Qm (Int.tdiv x292 8)) * 8))).set 31 (Qm ((Int.tmod x294 64)+64))) ((((Q3 p0).set 0 (Qm ((Qm (Int.tdiv x292 8)) * 8))).set 31 (Qm ((Int.tmod x294 64)+64))).length) (hn:=(by simp))) λ_=>.done (strOfNums (((Q3 p0).set 0 (Qm ((Qm (Int.tdiv x292 8)) * 8))).set 31 (Qm ((Int.tmod x294 64)+64))))))))))))
def Qq9(p0:ze):Sp (ze):=oF [0,2,3] Tryz.func126 [.str p0] (Qez p0) (λr=>.str r)
def Qeq(p0:ze):TT ((Nat->Int)):=.Qz 1 (XY 2) λ_=>.Qz 1001 (XY 3) λ_=>.bind 1 (.lp (λ(l299:(Nat->Int)×Int)=>Ext.of .normal [(0,.str p0),(2,.ptr 2 0 0),(3,.ptr 3 0 0),(4,.i l299.2)] [] [BT.of 2 Q5 1 (Y5 (λ_=>0)) true,BT.of 3 Q5 1 (Y5 l299.1) true] (by rfl)) (λl299=>.br 0 (decide (l299.2 < 16)) (.Qf 5005 (decide (0<=(Q0 ((2:Int) * l299.2))/\(Q0 ((2:Int) * l299.2)) < (p0.size:Int))) (.Qf 5011 (decide (0<=(Q0 ((Q0 ((2:Int) * l299.2))+1))/\(Q0 ((Q0 ((2:Int) * l299.2))+1)) < (p0.size:Int))) (.Qz 5015 (Mt (.tmp 3) (.tmp 9) 23 3 l299.1 l299.2) λ_=>.row 5016 Q5 (Y5 l299.1) (0+l299.2.toNat) true λx300=>.re 5016 (Jd.Ol 3 Q5 l299.1 (0+l299.2.toNat) (Q0 ((Q0 (QZ p0 (Q0 ((2:Int) * l299.2))))+(Q0 ((256:Int) * (Q0 (QZ p0 (Q0 ((Q0 ((2:Int) * l299.2))+1))))))))) (.done (.inl ((U7 l299.1 (0+l299.2.toNat) (Q0 ((Q0 (QZ p0 (Q0 ((2:Int) * l299.2))))+(Q0 ((256:Int) * (Q0 (QZ p0 (Q0 ((Q0 ((2:Int) * l299.2))+1))))))))),(Q0 (l299.2+1)))))))) (.done (.inr l299.1))) ((λ_=>0),0)) (λ(e301:(Nat->Int))=>Ext.of (.exit 0) [(2,.ptr 2 0 0),(3,.ptr 3 0 0)] [] [BT.of 2 Q5 1 (Y5 (λ_=>0)) true,BT.of 3 Q5 1 (Y5 e301) true] (by rfl)) (λe301=>.Qz 6001 (Mt (.tmp 3) (.const (.int .i64 15)) 24 3 e301 15) λ_=>.row 6002 Q5 (Y5 e301) 15 true λx302=>.Qz 6004 (Mt (.tmp 3) (.const (.int .i64 15)) 27 3 e301 15) λ_=>.row 6005 Q5 (Y5 e301) 15 true λx303=>.re 6005 (Jd.Ol 3 Q5 e301 15 (Int.tmod x302 32768)) (.Qz 7001 (Yo (.tmp 3) 28 3 (U7 e301 15 (Int.tmod x302 32768))) λ_=>.Qz 7002 (HX (.tmp 2) (.tmp 28) 2 (λ_=>0) (U7 e301 15 (Int.tmod x302 32768))) λ_=>.done (U7 e301 15 (Int.tmod x302 32768))))
def Qq8(p0:ze):Sp ((Nat->Int)):=oF [0,2,3,4,6] Tryz.func127 [.str p0] (Qeq p0) (λr=>.agg (V1 r))
def Qe9(p0:Int):TT ((Nat->Int)):=.Qz 1 (XY 2) λ_=>.Qz 1004 (XY 3) λ_=>.Qz 1005 (Qw.KN (ty:=Q5) 191 (.tmp 3) (.tmp 6) 3 ⟨1,true,(List.map Q5.c (Y5 (λ_=>0)))⟩ (.agg (H4 [.int .i64 (Int.tmod p0 65536)] (X9 15 (.int .i64 0) []))) (Y5 (U7 (λ_=>0) 0 (Int.tmod p0 65536)))) λ_=>.Qz 2003 (Mt (.tmp 3) (.const (.int .i64 1)) 9 3 (U7 (λ_=>0) 0 (Int.tmod p0 65536)) 1) λ_=>.row 2004 Q5 (Y5 (U7 (λ_=>0) 0 (Int.tmod p0 65536))) 1 true λx305=>.re 2004 (Jd.Ol 3 Q5 (U7 (λ_=>0) 0 (Int.tmod p0 65536)) 1 (Q0 (Int.tdiv p0 65536))) (.Qz 3001 (Yo (.tmp 3) 10 3 (U7 (U7 (λ_=>0) 0 (Int.tmod p0 65536)) 1 (Q0 (Int.tdiv p0 65536)))) λ_=>.Qz 3002 (HX (.tmp 2) (.tmp 10) 2 (λ_=>0) (U7 (U7 (λ_=>0) 0 (Int.tmod p0 65536)) 1 (Q0 (Int.tdiv p0 65536)))) λ_=>.done (U7 (U7 (λ_=>0) 0 (Int.tmod p0 65536)) 1 (Q0 (Int.tdiv p0 65536))))
def Sr(p0:Int):Sp ((Nat->Int)):=oF [0,2,3] Tryz.func128 [.i p0] (Qe9 p0) (λr=>.agg (V1 r))
def Qmz(p0:List Int):TT ((Nat->Int)):=.Qz 1 (XY 2) λ_=>.Qz 1001 (XY 3) λ_=>.bind 1 (.lp (λ(l324:(Nat->Int)×Int)=>Ext.of .normal [(0,Sl 1 Q5 p0),(2,.ptr 2 0 0),(3,.ptr 3 0 0),(4,.i l324.2)] [] [BT.of 2 Q5 1 (Y5 (λ_=>0)) true,BT.of 3 Q5 1 (Y5 l324.1) true] (by rfl)) (λl324=>.br 0 (decide (l324.2 < (E6 Q5 p0))) (.br 0 (decide (l324.2 < 16)) (.Qz 6003 (Mt (.tmp 3) (.tmp 17) 18 3 l324.1 l324.2) λ_=>.row 6004 Q5 (Y5 l324.1) (0+l324.2.toNat) true λx325=>.row 6007 Q5 p0 l324.2.toNat (decide (0<=l324.2)) λx326=>.Qz 6010 (Mt (.tmp 3) (.tmp 16) 25 3 l324.1 l324.2) λ_=>.row 6011 Q5 (Y5 l324.1) (0+l324.2.toNat) true λx327=>.re 6011 (Jd.Ol 3 Q5 l324.1 (0+l324.2.toNat) (Q0 (x325+x326))) (.done (.inl ((U7 l324.1 (0+l324.2.toNat) (Q0 (x325+x326))),(Q0 (l324.2+1)))))) (.Qz 7005 (Mt (.tmp 3) (.tmp 29) 30 3 l324.1 (Q0 (l324.2 - 16))) λ_=>.row 7006 Q5 (Y5 l324.1) (0+(Q0 (l324.2 - 16)).toNat) true λx328=>.row 7009 Q5 p0 l324.2.toNat (decide (0<=l324.2)) λx329=>.Qz 7013 (Mt (.tmp 3) (.tmp 27) 38 3 l324.1 (Q0 (l324.2 - 16))) λ_=>.row 7014 Q5 (Y5 l324.1) (0+(Q0 (l324.2 - 16)).toNat) true λx330=>.re 7014 (Jd.Ol 3 Q5 l324.1 (0+(Q0 (l324.2 - 16)).toNat) (Q0 (x328+(Q0 ((38:Int) * x329))))) (.done (.inl ((U7 l324.1 (0+(Q0 (l324.2 - 16)).toNat) (Q0 (x328+(Q0 ((38:Int) * x329))))),(Q0 (l324.2+1))))))) (.done (.inr l324.1))) ((λ_=>0),0)) (λ(e331:(Nat->Int))=>Ext.of (.exit 0) [(2,.ptr 2 0 0),(3,.ptr 3 0 0)] [] [BT.of 2 Q5 1 (Y5 (λ_=>0)) true,BT.of 3 Q5 1 (Y5 e331) true] (by rfl)) (λe331=>.bind 1 (.lp (λ(l342:(Nat->Int)×Int)=>Ext.of .normal [(2,.ptr 2 0 0),(3,.ptr 3 0 0),(5,.i l342.2)] [] [BT.of 2 Q5 1 (Y5 (λ_=>0)) true,BT.of 3 Q5 1 (Y5 l342.1) true] (by rfl)) (λl342=>.br 0 (decide (l342.2 < 3)) (.bind 2 (.lp (λ(l346:(Nat->Int)×Int×Int)=>Ext.of .normal [(2,.ptr 2 0 0),(3,.ptr 3 0 0),(5,.i l342.2),(6,.i l346.2.1),(7,.i l346.2.2)] [] [BT.of 2 Q5 1 (Y5 (λ_=>0)) true,BT.of 3 Q5 1 (Y5 l346.1) true] (by rfl)) (λl346=>.br 0 (decide (l346.2.2 < 16)) (.Qz 15003 (Mt (.tmp 3) (.tmp 48) 49 3 l346.1 l346.2.2) λ_=>.row 15004 Q5 (Y5 l346.1) (0+l346.2.2.toNat) true λx347=>.Qz 16004 (Mt (.tmp 3) (.tmp 52) 55 3 l346.1 l346.2.2) λ_=>.row 16005 Q5 (Y5 l346.1) (0+l346.2.2.toNat) true λx348=>.re 16005 (Jd.Ol 3 Q5 l346.1 (0+l346.2.2.toNat) (Int.tmod (Q0 (l346.2.1+x347)) 65536)) (.done (.inl ((U7 l346.1 (0+l346.2.2.toNat) (Int.tmod (Q0 (l346.2.1+x347)) 65536)),(Q0 (Int.tdiv (Q0 (l346.2.1+x347)) 65536)),(Q0 (l346.2.2+1)))))) (.done (.inr (l346.1,l346.2.1)))) (l342.1,0,0)) (λ(e349:(Nat->Int)×Int)=>Ext.of (.exit 4) [(2,.ptr 2 0 0),(3,.ptr 3 0 0),(5,.i l342.2),(6,.i e349.2)] [] [BT.of 2 Q5 1 (Y5 (λ_=>0)) true,BT.of 3 Q5 1 (Y5 e349.1) true] (by rfl)) (λe349=>.Qz 18001 (Mt (.tmp 3) (.const (.int .i64 0)) 58 3 e349.1 0) λ_=>.row 18002 Q5 (Y5 e349.1) 0 true λx350=>.Qz 18006 (Mt (.tmp 3) (.const (.int .i64 0)) 63 3 e349.1 0) λ_=>.row 18007 Q5 (Y5 e349.1) 0 true λx351=>.re 18007 (Jd.Ol 3 Q5 e349.1 0 (Q0 (x350+(Q0 ((38:Int) * e349.2))))) (.done (.inl ((U7 e349.1 0 (Q0 (x350+(Q0 ((38:Int) * e349.2))))),(Q0 (l342.2+1))))))) (.done (.inr l342.1))) (e331,0)) (λ(e352:(Nat->Int))=>Ext.of (.exit 2) [(2,.ptr 2 0 0),(3,.ptr 3 0 0)] [] [BT.of 2 Q5 1 (Y5 (λ_=>0)) true,BT.of 3 Q5 1 (Y5 e352) true] (by rfl)) (λe352=>.Qz 19001 (Yo (.tmp 3) 64 3 e352) λ_=>.Qz 19002 (HX (.tmp 2) (.tmp 64) 2 (λ_=>0) e352) λ_=>.done e352))
def TS(p0:List Int):Sp ((Nat->Int)):=oF [0,2,3,4,5,6,7,11,15,40,44] Tryz.func187 [Sl 1 Q5 p0] (Qmz p0) (λr=>.agg (V1 r))
def Qe8(p0 p1:Nat->Int):TT ((Nat->Int)):=.Qz 1 (Qw.DQ (ty:=Q5) 191 (.tmp 0) 2 (Y5 p0)) λ_=>.Qz 2 (Qw.DQ (ty:=Q5) 191 (.tmp 1) 3 (Y5 p1)) λ_=>.Qz 3 (XY 4) λ_=>.Qz 1001 (Qw.Ul (ty:=Q5) (t:=36) (e:=3) (k:=.i64) (.const (.int .i64 16)) (.const (.int .i64 16)) 7 16 8) λ_=>.bind 1 (.lp (λ(l315:(List Int)×Int)=>Ext.of .normal [(2,.ptr 2 0 0),(3,.ptr 3 0 0),(4,.ptr 4 0 0),(5,.ref 7 0 16),(6,.i l315.2)] [] [BT.of 2 Q5 1 (Y5 p0) true,BT.of 3 Q5 1 (Y5 p1) true,BT.of 4 Q5 1 (Y5 (λ_=>0)) true,Bt 7 Q5 1 l315.1] (by rfl)) (λl315=>.br 0 (decide (l315.2 < 16)) (.Qz 5004 (Mt (.tmp 2) (.tmp 14) 15 2 p0 l315.2) λ_=>.row 5005 Q5 (Y5 p0) (0+l315.2.toNat) true λx316=>.Qz 5007 (Mt (.tmp 3) (.tmp 17) 18 3 p1 l315.2) λ_=>.row 5008 Q5 (Y5 p1) (0+l315.2.toNat) true λx317=>.Qf 5010 (bD l315.2 16) (.row 5011 Q5 l315.1 (0+l315.2.toNat) true λx318=>.re 5011 (Jd.put 7 1 Q5 l315.1 (0+l315.2.toNat) (Q0 (x316+x317))) (.done (.inl ((l315.1.set (0+l315.2.toNat) (Q0 (x316+x317))),(Q0 (l315.2+1))))))) (.done (.inr l315.1))) ((List.replicate 16 (0:Int)),0)) (λ(e319:(List Int))=>Ext.of (.exit 0) [(4,.ptr 4 0 0),(5,.ref 7 0 16)] [] [BT.of 4 Q5 1 (Y5 (λ_=>0)) true,Bt 7 Q5 1 e319] (by rfl)) (λe319=>.view 6002 (TS (e319.take 16)) [(Zs.part 7 Q5 e319 16)] λr353=>.Qz 6003 (HX (.tmp 4) (.tmp 23) 4 (λ_=>0) r353) λ_=>.done r353)
def Sn(p0 p1:Nat->Int):Sp ((Nat->Int)):=oF [0,1,2,3,4,5,6,9] Tryz.func129 [.agg (V1 p0),.agg (V1 p1)] (Qe8 p0 p1) (λr=>.agg (V1 r))
def Qe7(p0 p1:Nat->Int):TT ((Nat->Int)):=.Qz 1 (Qw.DQ (ty:=Q5) 191 (.tmp 0) 2 (Y5 p0)) λ_=>.Qz 2 (Qw.DQ (ty:=Q5) 191 (.tmp 1) 3 (Y5 p1)) λ_=>.Qz 3 (XY 4) λ_=>.Qz 1001 (Qw.Ul (ty:=Q5) (t:=36) (e:=3) (k:=.i64) (.const (.int .i64 16)) (.const (.int .i64 16)) 7 16 8) λ_=>.bind 1 (.lp (λ(l359:(List Int)×Int)=>Ext.of .normal [(2,.ptr 2 0 0),(3,.ptr 3 0 0),(4,.ptr 4 0 0),(5,.ref 7 0 16),(6,.i l359.2)] [] [BT.of 2 Q5 1 (Y5 p0) true,BT.of 3 Q5 1 (Y5 p1) true,BT.of 4 Q5 1 (Y5 (λ_=>0)) true,Bt 7 Q5 1 l359.1] (by rfl)) (λl359=>.br 0 (decide (l359.2 < 16)) (.Qz 5004 (Mt (.tmp 2) (.tmp 14) 15 2 p0 l359.2) λ_=>.row 5005 Q5 (Y5 p0) (0+l359.2.toNat) true λx360=>.Qz 5007 (Mt (.tmp 3) (.tmp 17) 18 3 p1 l359.2) λ_=>.row 5008 Q5 (Y5 p1) (0+l359.2.toNat) true λx361=>.Qf 5011 (bD l359.2 16) (.row 5012 Q5 l359.1 (0+l359.2.toNat) true λx362=>.re 5012 (Jd.put 7 1 Q5 l359.1 (0+l359.2.toNat) (Q0 ((Q0 (x360 - x361))+131070))) (.done (.inl ((l359.1.set (0+l359.2.toNat) (Q0 ((Q0 (x360 - x361))+131070))),(Q0 (l359.2+1))))))) (.done (.inr l359.1))) ((List.replicate 16 (0:Int)),0)) (λ(e363:(List Int))=>Ext.of (.exit 0) [(4,.ptr 4 0 0),(5,.ref 7 0 16)] [] [BT.of 4 Q5 1 (Y5 (λ_=>0)) true,Bt 7 Q5 1 e363] (by rfl)) (λe363=>.row 6004 Q5 e363 0 true λx364=>.row 6007 Q5 e363 0 true λx365=>.re 6007 (Jd.put 7 1 Q5 e363 0 (Q0 (x364 - 74))) (.view 7002 (TS ((e363.set 0 (Q0 (x364 - 74))).take 16)) [(Zs.part 7 Q5 (e363.set 0 (Q0 (x364 - 74))) 16)] λr366=>.Qz 7003 (HX (.tmp 4) (.tmp 30) 4 (λ_=>0) r366) λ_=>.done r366))
def Sg(p0 p1:Nat->Int):Sp ((Nat->Int)):=oF [0,1,2,3,4,5,6,9] Tryz.func130 [.agg (V1 p0),.agg (V1 p1)] (Qe7 p0 p1) (λr=>.agg (V1 r))
def Qe6(p0 p1:Nat->Int):TT ((Nat->Int)):=.Qz 1 (Qw.DQ (ty:=Q5) 191 (.tmp 0) 2 (Y5 p0)) λ_=>.Qz 2 (Qw.DQ (ty:=Q5) 191 (.tmp 1) 3 (Y5 p1)) λ_=>.Qz 3 (XY 4) λ_=>.Qz 1001 (Qw.Ul (ty:=Q5) (t:=36) (e:=3) (k:=.i64) (.const (.int .i64 31)) (.const (.int .i64 31)) 8 31 8) λ_=>.bind 1 (.lp (λ(l380:(List Int)×Int)=>Ext.of .normal [(2,.ptr 2 0 0),(3,.ptr 3 0 0),(4,.ptr 4 0 0),(5,.ref 8 0 31),(6,.i l380.2)] [] [BT.of 2 Q5 1 (Y5 p0) true,BT.of 3 Q5 1 (Y5 p1) true,BT.of 4 Q5 1 (Y5 (λ_=>0)) true,Bt 8 Q5 1 l380.1] (by rfl)) (λl380=>.br 0 (decide (l380.2 < 16)) (.bind 2 (.lp (λ(l386:(List Int)×Int)=>Ext.of .normal [(2,.ptr 2 0 0),(3,.ptr 3 0 0),(4,.ptr 4 0 0),(5,.ref 8 0 31),(6,.i l380.2),(7,.i l386.2)] [] [BT.of 2 Q5 1 (Y5 p0) true,BT.of 3 Q5 1 (Y5 p1) true,BT.of 4 Q5 1 (Y5 (λ_=>0)) true,Bt 8 Q5 1 l386.1] (by rfl)) (λl386=>.br 0 (decide (l386.2 < 16)) (.Qf 8009 (decide (0<=(Q0 (l380.2+l386.2)))&&decide ((Q0 (l380.2+l386.2)) < (31:Int))) (.row 8010 Q5 l386.1 (0+(Q0 (l380.2+l386.2)).toNat) true λx387=>.Qz 8012 (Mt (.tmp 2) (.tmp 27) 28 2 p0 l380.2) λ_=>.row 8013 Q5 (Y5 p0) (0+l380.2.toNat) true λx388=>.Qz 8015 (Mt (.tmp 3) (.tmp 30) 31 3 p1 l386.2) λ_=>.row 8016 Q5 (Y5 p1) (0+l386.2.toNat) true λx389=>.Qf 8019 (decide (0<=(Q0 (l380.2+l386.2)))&&decide ((Q0 (l380.2+l386.2)) < (31:Int))) (.row 8020 Q5 l386.1 (0+(Q0 (l380.2+l386.2)).toNat) true λx390=>.re 8020 (Jd.put 8 1 Q5 l386.1 (0+(Q0 (l380.2+l386.2)).toNat) (Q0 (x387+(Q0 (x388 * x389))))) (.done (.inl ((l386.1.set (0+(Q0 (l380.2+l386.2)).toNat) (Q0 (x387+(Q0 (x388 * x389))))),(Q0 (l386.2+1)))))))) (.done (.inr l386.1))) (l380.1,0)) (λ(e391:(List Int))=>Ext.of (.exit 2) [(2,.ptr 2 0 0),(3,.ptr 3 0 0),(4,.ptr 4 0 0),(5,.ref 8 0 31),(6,.i l380.2)] [] [BT.of 2 Q5 1 (Y5 p0) true,BT.of 3 Q5 1 (Y5 p1) true,BT.of 4 Q5 1 (Y5 (λ_=>0)) true,Bt 8 Q5 1 e391] (by rfl)) (λe391=>.done (.inl (e391,(Q0 (l380.2+1)))))) (.done (.inr l380.1))) ((List.replicate 31 (0:Int)),0)) (λ(e392:(List Int))=>Ext.of (.exit 0) [(4,.ptr 4 0 0),(5,.ref 8 0 31)] [] [BT.of 4 Q5 1 (Y5 (λ_=>0)) true,Bt 8 Q5 1 e392] (by rfl)) (λe392=>.view 9002 (TS (e392.take 31)) [(Zs.part 8 Q5 e392 31)] λr393=>.Qz 9003 (HX (.tmp 4) (.tmp 37) 4 (λ_=>0) r393) λ_=>.done r393)
def Mu(p0 p1:Nat->Int):Sp ((Nat->Int)):=oF [0,1,2,3,4,5,6,7,10,14] Tryz.func131 [.agg (V1 p0),.agg (V1 p1)] (Qe6 p0 p1) (λr=>.agg (V1 r))
def Qe4(p0:Nat->Int):TT ((Nat->Int)):=.Qz 1 (Qw.DQ (ty:=Q5) 191 (.tmp 0) 1 (Y5 p0)) λ_=>.Qz 2 (XY 2) λ_=>.cl 1001 (Sr 1) λr356=>.Qz 1002 (XY 3) λ_=>.Qz 1003 (HX (.tmp 3) (.tmp 5) 3 (λ_=>0) r356) λ_=>.bind 1 (.lp (λ(l360:(Nat->Int)×Int)=>Ext.of .normal [(1,.ptr 1 0 0),(2,.ptr 2 0 0),(3,.ptr 3 0 0),(4,.i l360.2)] [] [BT.of 1 Q5 1 (Y5 p0) true,BT.of 2 Q5 1 (Y5 (λ_=>0)) true,BT.of 3 Q5 1 (Y5 l360.1) true] (by rfl)) (λl360=>.br 0 (decide ((0:Int)<=l360.2)) (.Qz 5001 (Yo (.tmp 3) 10 3 l360.1) λ_=>.Qz 5002 (Yo (.tmp 3) 11 3 l360.1) λ_=>.cl 5003 (Mu l360.1 l360.1) λr361=>.Qz 5004 (HX (.tmp 3) (.tmp 12) 3 l360.1 r361) λ_=>.QV 6 [18] (.an 6004 (l360.2 != 2) (.done (l360.2 != 4))) zm λc362=>.br 0 c362 (.Qz 7001 (Yo (.tmp 3) 19 3 r361) λ_=>.Qz 7002 (Yo (.tmp 1) 20 1 p0) λ_=>.cl 7003 (Mu r361 p0) λr363=>.Qz 7004 (HX (.tmp 3) (.tmp 21) 3 r361 r363) λ_=>.done (.inl (r363,(Q0 (l360.2 - 1))))) (.done (.inl (r361,(Q0 (l360.2 - 1)))))) (.done (.inr l360.1))) (r356,254)) (λ(e364:(Nat->Int))=>Ext.of (.exit 0) [(2,.ptr 2 0 0),(3,.ptr 3 0 0)] [] [BT.of 2 Q5 1 (Y5 (λ_=>0)) true,BT.of 3 Q5 1 (Y5 e364) true] (by rfl)) (λe364=>.Qz 8001 (Yo (.tmp 3) 22 3 e364) λ_=>.Qz 8002 (HX (.tmp 2) (.tmp 22) 2 (λ_=>0) e364) λ_=>.done e364)
def Qq6(p0:Nat->Int):Sp ((Nat->Int)):=oF [0,1,2,3,4,7,18] Tryz.func133 [.agg (V1 p0)] (Qe4 p0) (λr=>.agg (V1 r))
def Qmq(p0:Nat->Int):TT (Bool):=.Qz 1 (Qw.DQ (ty:=Q5) 191 (.tmp 0) 1 (Y5 p0)) λ_=>.QA 1 (.lp (λ(l371:Int)=>Ext.of .normal [(1,.ptr 1 0 0),(2,.bool false),(3,.i l371)] [] [BT.of 1 Q5 1 (Y5 p0) true] (by rfl)) (λl371=>.br 0 (decide ((1:Int)<=l371)) (.bind 1 (.br 0 (l371==15) (.done 32767) (.done 65535)) (λ(e372:Int)=>Ext.of .normal [(1,.ptr 1 0 0),(2,.bool false),(3,.i l371),(4,.i e372)] [] [BT.of 1 Q5 1 (Y5 p0) true] (by rfl)) (λe372=>.Qz 7002 (Mt (.tmp 1) (.tmp 11) 12 1 p0 l371) λ_=>.row 7003 Q5 (Y5 p0) (0+l371.toNat) true λx373=>.br 0 (x373 != e372) (.Qz 8002 (Mt (.tmp 1) (.tmp 16) 17 1 p0 l371) λ_=>.row 8003 Q5 (Y5 p0) (0+l371.toNat) true λx374=>.done (.inr (.inl (decide (x374 < e372))))) (.done (.inl (Q0 (l371 - 1)))))) (.done (.inr (.inr ())))) 15) (λ(e375:Bool)=>Ext.of .ret [(1,.ptr 1 0 0),(2,.bool e375)] [] [BT.of 1 Q5 1 (Y5 p0) true] (by rfl)) (λ(e376:Unit)=>Ext.of (.exit 0) [(1,.ptr 1 0 0),(2,.bool false)] [] [BT.of 1 Q5 1 (Y5 p0) true] (by rfl)) (λe375=>.done e375) (λe376=>.Qz 9001 (Mt (.tmp 1) (.const (.int .i64 0)) 21 1 p0 0) λ_=>.row 9002 Q5 (Y5 p0) 0 true λx377=>.done (decide (x377 < 65517)))
def vW(p0:Nat->Int):Sp (Bool):=oF [0,1,2,3,4,6,10,15] Tryz.func188 [.agg (V1 p0)] (Qmq p0) (λr=>.bool r)
def Qe5(p0:Nat->Int):TT (ze):=.Qz 1 (Qw.DQ (ty:=Q5) 191 (.tmp 0) 1 (Y5 p0)) λ_=>.bind 1 (.lp (λ(l380:(Nat->Int))=>Ext.of .normal [(1,.ptr 1 0 0),(2,.str zg)] [] [BT.of 1 Q5 1 (Y5 l380) true] (by rfl)) (λl380=>.Qz 1001 (Yo (.tmp 1) 7 1 l380) λ_=>.cl 1002 (vW l380) λr381=>.br 0 (!r381) (.bind 2 (.lp (λ(l385:(Nat->Int)×Int×Int)=>Ext.of .normal [(1,.ptr 1 0 0),(2,.str zg),(3,.i l385.2.1),(4,.i l385.2.2)] [] [BT.of 1 Q5 1 (Y5 l385.1) true] (by rfl)) (λl385=>.br 0 (decide (l385.2.2 < 16)) (.Qz 6003 (Mt (.tmp 1) (.tmp 15) 16 1 l385.1 l385.2.2) λ_=>.row 6004 Q5 (Y5 l385.1) (0+l385.2.2.toNat) true λx386=>.Qz 7004 (Mt (.tmp 1) (.tmp 19) 22 1 l385.1 l385.2.2) λ_=>.row 7005 Q5 (Y5 l385.1) (0+l385.2.2.toNat) true λx387=>.re 7005 (Jd.Ol 1 Q5 l385.1 (0+l385.2.2.toNat) (Int.tmod (Q0 (l385.2.1+x386)) 65536)) (.done (.inl ((U7 l385.1 (0+l385.2.2.toNat) (Int.tmod (Q0 (l385.2.1+x386)) 65536)),(Q0 (Int.tdiv (Q0 (l385.2.1+x386)) 65536)),(Q0 (l385.2.2+1)))))) (.done (.inr (l385.1,l385.2.1)))) (l380,19,0)) (λ(e388:(Nat->Int)×Int)=>Ext.of (.exit 2) [(1,.ptr 1 0 0),(2,.str zg),(3,.i e388.2)] [] [BT.of 1 Q5 1 (Y5 e388.1) true] (by rfl)) (λe388=>.Qz 9001 (Mt (.tmp 1) (.const (.int .i64 15)) 25 1 e388.1 15) λ_=>.row 9002 Q5 (Y5 e388.1) 15 true λx389=>.Qz 9004 (Mt (.tmp 1) (.const (.int .i64 15)) 28 1 e388.1 15) λ_=>.row 9005 Q5 (Y5 e388.1) 15 true λx390=>.re 9005 (Jd.Ol 1 Q5 e388.1 15 (Q0 (x389 - 32768))) (.br 0 (decide ((0:Int) < e388.2)) (.Qz 11001 (Mt (.tmp 1) (.const (.int .i64 15)) 31 1 (U7 e388.1 15 (Q0 (x389 - 32768))) 15) λ_=>.row 11002 Q5 (Y5 (U7 e388.1 15 (Q0 (x389 - 32768)))) 15 true λx391=>.Qz 11004 (Mt (.tmp 1) (.const (.int .i64 15)) 34 1 (U7 e388.1 15 (Q0 (x389 - 32768))) 15) λ_=>.row 11005 Q5 (Y5 (U7 e388.1 15 (Q0 (x389 - 32768)))) 15 true λx392=>.re 11005 (Jd.Ol 1 Q5 (U7 e388.1 15 (Q0 (x389 - 32768))) 15 (Q0 (x391+65536))) (.done (.inl (U7 (U7 e388.1 15 (Q0 (x389 - 32768))) 15 (Q0 (x391+65536)))))) (.done (.inl (U7 e388.1 15 (Q0 (x389 - 32768)))))))) (.done (.inr l380))) p0) (λ(e393:(Nat->Int))=>Ext.of (.exit 0) [(1,.ptr 1 0 0),(2,.str zg)] [] [BT.of 1 Q5 1 (Y5 e393) true] (by rfl)) (λe393=>.gh 1 (.Az 600010 5 1) (.bind 0 (.lp (λ(l397:(List Int)×Int)=>Ext.of .normal [(1,.ptr 1 0 0),(2,.str zg),(5,Rf 600010 l397.1),(6,.i l397.2)] [] [BT.of 1 Q5 1 (Y5 e393) true,Bt 600010 Y3 1 l397.1] (by rfl)) (λl397=>.br 0 (decide (l397.2 < 16)) (.Qz 16003 (Mt (.tmp 1) (.tmp 40) 41 1 e393 l397.2) λ_=>.row 16004 Q5 (Y5 e393) (0+l397.2.toNat) true λx398=>.Qz 16008 (Mt (.tmp 1) (.tmp 45) 46 1 e393 l397.2) λ_=>.row 16009 Q5 (Y5 e393) (0+l397.2.toNat) true λx399=>.app 16013 Y3 l397.1 [(Qm (Int.tmod x398 256)),(Qm (Q0 (Int.tdiv x399 256)))] 1 false (by intro h;cases h) (.gh 0 (.drop [600010]) (.gh 0 (.Qb 51 600010) (.done (.inl ((l397.1++[(Qm (Int.tmod x398 256)),(Qm (Q0 (Int.tdiv x399 256)))]),(Q0 (l397.2+1)))))))) (.done (.inr l397.1))) ([],0)) (λ(e400:(List Int))=>Ext.of (.exit 4) [(2,.str zg),(5,Rf 600010 e400)] [] [Bt 600010 Y3 1 e400] (by rfl)) (λe400=>.Qz 17002 (Qw.JU (ty:=Y3) (s:=57) (t:=9) (e:=5) (.tmp 52) 53 600010 e400 e400.length (hn:=(by simp))) λ_=>.done (strOfNums e400))))
def Qq7(p0:Nat->Int):Sp (ze):=oF [0,1,2,3,4,5,6,9,11,30,36] Tryz.func132 [.agg (V1 p0)] (Qe5 p0) (λr=>.str r)
def g70(p0 p1:ze):TT (ze):=.cl 1002 (Qq9 p0) λr296=>.cl 2002 (Qq8 p1) λr304=>.Qz 2003 (XY 6) λ_=>.Qz 2004 (HX (.tmp 6) (.tmp 23) 6 (λ_=>0) r304) λ_=>.cl 3001 (Sr 1) λr306=>.cl 3002 (Sr 0) λr307=>.Qz 3003 (Yo (.tmp 6) 26 6 r304) λ_=>.cl 3004 (Sr 1) λr308=>.Qz 3005 (XY 7) λ_=>.Qz 3006 (XY 8) λ_=>.Qz 3007 (XY 9) λ_=>.Qz 3008 (XY 10) λ_=>.Qz 3009 (HX (.tmp 7) (.tmp 24) 7 (λ_=>0) r306) λ_=>.Qz 3010 (HX (.tmp 8) (.tmp 25) 8 (λ_=>0) r307) λ_=>.Qz 3011 (HX (.tmp 9) (.tmp 26) 9 (λ_=>0) r304) λ_=>.Qz 3012 (HX (.tmp 10) (.tmp 27) 10 (λ_=>0) r308) λ_=>.bind 1 (.lp (λ(l332:(Nat->Int)×(Nat->Int)×(Nat->Int)×(Nat->Int)×Int)=>Ext.of .normal [(4,.str zg),(5,.str r296),(6,.ptr 6 0 0),(7,.ptr 7 0 0),(8,.ptr 8 0 0),(9,.ptr 9 0 0),(10,.ptr 10 0 0),(11,.i l332.q)] [] [BT.of 6 Q5 1 (Y5 r304) true,BT.of 7 Q5 1 (Y5 l332.1) true,BT.of 8 Q5 1 (Y5 l332.2.1) true,BT.of 9 Q5 1 (Y5 l332.2.2.1) true,BT.of 10 Q5 1 (Y5 l332.2.2.2.1) true] (by rfl)) (λl332=>.br 0 (decide ((0:Int)<=l332.q)) (.Qf 7004 (decide (0<=(Q0 (Int.tdiv l332.q 8))/\(Q0 (Int.tdiv l332.q 8)) < (r296.size:Int))) (.Qf 7008 (decide ((0:Int)<=(Z1 (Int.tmod l332.q 8)))) (.bind 0 (.br 0 ((U0 .u8 (Z3 .u8 (QZ r296 (Q0 (Int.tdiv l332.q 8))) (Z1 (Int.tmod l332.q 8))) 1)==1) (.Qz 9001 (Yo (.tmp 9) 43 9 l332.2.2.1) λ_=>.Qz 9002 (Yo (.tmp 10) 44 10 l332.2.2.2.1) λ_=>.Qz 9003 (Yo (.tmp 7) 45 7 l332.1) λ_=>.Qz 9004 (Yo (.tmp 8) 46 8 l332.2.1) λ_=>.Qz 9005 (HX (.tmp 7) (.tmp 43) 7 l332.1 l332.2.2.1) λ_=>.Qz 9006 (HX (.tmp 8) (.tmp 44) 8 l332.2.1 l332.2.2.2.1) λ_=>.Qz 9007 (HX (.tmp 9) (.tmp 45) 9 l332.2.2.1 l332.1) λ_=>.Qz 9008 (HX (.tmp 10) (.tmp 46) 10 l332.2.2.2.1 l332.2.1) λ_=>.done (l332.2.2.1,l332.2.2.2.1,l332.1,l332.2.1)) (.done (l332.1,l332.2.1,l332.2.2.1,l332.2.2.2.1))) (λ(e333:(Nat->Int)×(Nat->Int)×(Nat->Int)×(Nat->Int))=>Ext.of .normal [(4,.str zg),(5,.str r296),(6,.ptr 6 0 0),(7,.ptr 7 0 0),(8,.ptr 8 0 0),(9,.ptr 9 0 0),(10,.ptr 10 0 0),(11,.i l332.q),(12,.bool ((U0 .u8 (Z3 .u8 (QZ r296 (Q0 (Int.tdiv l332.q 8))) (Z1 (Int.tmod l332.q 8))) 1)==1))] [] [BT.of 6 Q5 1 (Y5 r304) true,BT.of 7 Q5 1 (Y5 e333.1) true,BT.of 8 Q5 1 (Y5 e333.2.1) true,BT.of 9 Q5 1 (Y5 e333.2.2.1) true,BT.of 10 Q5 1 (Y5 e333.2.2.2) true] (by rfl)) (λe333=>.Qz 10001 (Yo (.tmp 7) 47 7 e333.1) λ_=>.Qz 10002 (Yo (.tmp 8) 48 8 e333.2.1) λ_=>.cl 10003 (Sn e333.1 e333.2.1) λr334=>.Qz 10004 (Yo (.tmp 7) 50 7 e333.1) λ_=>.Qz 10005 (Yo (.tmp 8) 51 8 e333.2.1) λ_=>.cl 10006 (Sg e333.1 e333.2.1) λr335=>.Qz 10007 (XY 13) λ_=>.Qz 10008 (XY 14) λ_=>.Qz 10009 (HX (.tmp 13) (.tmp 49) 13 (λ_=>0) r334) λ_=>.Qz 10010 (HX (.tmp 14) (.tmp 52) 14 (λ_=>0) r335) λ_=>.Qz 11001 (Yo (.tmp 13) 53 13 r334) λ_=>.Qz 11002 (Yo (.tmp 13) 54 13 r334) λ_=>.cl 11003 (Mu r334 r334) λr336=>.Qz 11004 (Yo (.tmp 14) 56 14 r335) λ_=>.Qz 11005 (Yo (.tmp 14) 57 14 r335) λ_=>.cl 11006 (Mu r335 r335) λr337=>.Qz 11007 (XY 15) λ_=>.Qz 11008 (XY 16) λ_=>.Qz 11009 (HX (.tmp 15) (.tmp 55) 15 (λ_=>0) r336) λ_=>.Qz 11010 (HX (.tmp 16) (.tmp 58) 16 (λ_=>0) r337) λ_=>.Qz 12001 (Yo (.tmp 15) 59 15 r336) λ_=>.Qz 12002 (Yo (.tmp 16) 60 16 r337) λ_=>.cl 12003 (Sg r336 r337) λr338=>.Qz 12004 (XY 17) λ_=>.Qz 12005 (HX (.tmp 17) (.tmp 61) 17 (λ_=>0) r338) λ_=>.Qz 13001 (Yo (.tmp 9) 62 9 e333.2.2.1) λ_=>.Qz 13002 (Yo (.tmp 10) 63 10 e333.2.2.2) λ_=>.cl 13003 (Sg e333.2.2.1 e333.2.2.2) λr339=>.Qz 13004 (Yo (.tmp 13) 65 13 r334) λ_=>.cl 13005 (Mu r339 r334) λr340=>.Qz 13006 (Yo (.tmp 9) 67 9 e333.2.2.1) λ_=>.Qz 13007 (Yo (.tmp 10) 68 10 e333.2.2.2) λ_=>.cl 13008 (Sn e333.2.2.1 e333.2.2.2) λr341=>.Qz 13009 (Yo (.tmp 14) 70 14 r335) λ_=>.cl 13010 (Mu r341 r335) λr342=>.Qz 13011 (XY 18) λ_=>.Qz 13012 (XY 19) λ_=>.Qz 13013 (HX (.tmp 18) (.tmp 66) 18 (λ_=>0) r340) λ_=>.Qz 13014 (HX (.tmp 19) (.tmp 71) 19 (λ_=>0) r342) λ_=>.Qz 14001 (Yo (.tmp 15) 72 15 r336) λ_=>.Qz 14002 (Yo (.tmp 16) 73 16 r337) λ_=>.cl 14003 (Mu r336 r337) λr343=>.Qz 14004 (HX (.tmp 7) (.tmp 74) 7 e333.1 r343) λ_=>.Qz 15001 (Yo (.tmp 17) 75 17 r338) λ_=>.Qz 15002 (Yo (.tmp 15) 76 15 r336) λ_=>.cl 15003 (Sr 121665) λr344=>.Qz 15004 (Yo (.tmp 17) 78 17 r338) λ_=>.cl 15005 (Mu r344 r338) λr345=>.cl 15006 (Sn r336 r345) λr346=>.cl 15007 (Mu r338 r346) λr347=>.Qz 15008 (HX (.tmp 8) (.tmp 81) 8 e333.2.1 r347) λ_=>.Qz 16001 (Yo (.tmp 18) 82 18 r340) λ_=>.Qz 16002 (Yo (.tmp 19) 83 19 r342) λ_=>.cl 16003 (Sn r340 r342) λr348=>.Qz 16004 (Yo (.tmp 18) 85 18 r340) λ_=>.Qz 16005 (Yo (.tmp 19) 86 19 r342) λ_=>.cl 16006 (Sn r340 r342) λr349=>.cl 16007 (Mu r348 r349) λr350=>.Qz 16008 (HX (.tmp 9) (.tmp 88) 9 e333.2.2.1 r350) λ_=>.Qz 17001 (Yo (.tmp 6) 89 6 r304) λ_=>.Qz 17002 (Yo (.tmp 18) 90 18 r340) λ_=>.Qz 17003 (Yo (.tmp 19) 91 19 r342) λ_=>.cl 17004 (Sg r340 r342) λr351=>.Qz 17005 (Yo (.tmp 18) 93 18 r340) λ_=>.Qz 17006 (Yo (.tmp 19) 94 19 r342) λ_=>.cl 17007 (Sg r340 r342) λr352=>.cl 17008 (Mu r351 r352) λr353=>.cl 17009 (Mu r304 r353) λr354=>.Qz 17010 (HX (.tmp 10) (.tmp 97) 10 e333.2.2.2 r354) λ_=>.br 0 ((U0 .u8 (Z3 .u8 (QZ r296 (Q0 (Int.tdiv l332.q 8))) (Z1 (Int.tmod l332.q 8))) 1)==1) (.Qz 19001 (Yo (.tmp 9) 99 9 r350) λ_=>.Qz 19002 (Yo (.tmp 10) 100 10 r354) λ_=>.Qz 19003 (Yo (.tmp 7) 101 7 r343) λ_=>.Qz 19004 (Yo (.tmp 8) 102 8 r347) λ_=>.Qz 19005 (HX (.tmp 7) (.tmp 99) 7 r343 r350) λ_=>.Qz 19006 (HX (.tmp 8) (.tmp 100) 8 r347 r354) λ_=>.Qz 19007 (HX (.tmp 9) (.tmp 101) 9 r350 r343) λ_=>.Qz 19008 (HX (.tmp 10) (.tmp 102) 10 r354 r347) λ_=>.done (.inl (r350,r354,r343,r347,(Q0 (l332.q - 1))))) (.done (.inl (r343,r347,r350,r354,(Q0 (l332.q - 1))))))))) (.done (.inr (l332.1,l332.2.1)))) (r306,r307,r304,r308,254)) (λ(e355:(Nat->Int)×(Nat->Int))=>Ext.of (.exit 0) [(4,.str zg),(7,.ptr 7 0 0),(8,.ptr 8 0 0)] [] [BT.of 7 Q5 1 (Y5 e355.1) true,BT.of 8 Q5 1 (Y5 e355.2) true] (by rfl)) (λe355=>.Qz 20001 (Yo (.tmp 7) 103 7 e355.1) λ_=>.Qz 20002 (Yo (.tmp 8) 104 8 e355.2) λ_=>.cl 20003 (Qq6 e355.2) λr365=>.cl 20004 (Mu e355.1 r365) λr366=>.cl 20005 (Qq7 r366) λr401=>.done r401)
def s70(p0 p1:ze):Sp (ze):=oF [0,1,4,5,6,7,8,9,10,11,12,13,14,15,16,17,18,19,29,42,98] Tryz.func70 [.str p0,.str p1] (g70 p0 p1) (λr=>.str r)
structure Z5 where
 ft:ze
 fI:ze
 fF:Int
 fC:Int
 fQ:Int
def Qmc(p0:Int):TT (Bool):=.QV 1 [2] (.br 1004 (decide ((97:Int)<=p0)) (.oR 1008 (decide (p0<=122)) (.br 1011 (decide ((65:Int)<=p0)) (.oR 1016 (decide (p0<=90)) (.br 1019 (decide ((48:Int)<=p0)) (.oR 1024 (decide (p0<=57)) (.oR 1028 (p0==46) (.done (p0==45)))) (.oR 1028 (p0==46) (.done (p0==45))))) (.br 1019 (decide ((48:Int)<=p0)) (.oR 1024 (decide (p0<=57)) (.oR 1028 (p0==46) (.done (p0==45)))) (.oR 1028 (p0==46) (.done (p0==45)))))) (.br 1011 (decide ((65:Int)<=p0)) (.oR 1016 (decide (p0<=90)) (.br 1019 (decide ((48:Int)<=p0)) (.oR 1024 (decide (p0<=57)) (.oR 1028 (p0==46) (.done (p0==45)))) (.oR 1028 (p0==46) (.done (p0==45))))) (.br 1019 (decide ((48:Int)<=p0)) (.oR 1024 (decide (p0<=57)) (.oR 1028 (p0==46) (.done (p0==45)))) (.oR 1028 (p0==46) (.done (p0==45)))))) zm λc402=>.done c402
def lA(p0:Int):Sp (Bool):=oF [0,2] Tryz.func151 [.int .u8 p0] (Qmc p0) (λr=>.bool r)
def Qkk(p0:ze)(p1:Int):TT (Int):=.Qz 1003 (Qw.Qib 263 (.tmp 5) (.tmp 6) #[9,5] 7 p0 p1 Tryz.func263 (by kernel_rfl) (by kernel_rfl) (by kernel_rfl) (by kernel_rfl)) λ_=>.done (firstIdx p0 (p1).toNat.toUInt8)
def tA(p0:ze)(p1:Int):Sp (Int):=oF [0,1,4] Tryz.func254 [.str p0,.int .u8 p1] (Qkk p0 p1) (λr=>.int .i64 r)
def Qkt(p0:ze)(p1:Int):TT (Int):=.cl 1003 (tA p0 p1) λr403=>.done r403
def Sa(p0:ze)(p1:Int):Sp (Int):=oF [0,1,4] Tryz.func220 [.str p0,.int .u8 p1] (Qkt p0 p1) (λr=>.int .i64 r)
noncomputable def Pa:Code:=(cB (cR (cL (cR (cR (Tryz.f91.body.getD .skip))))))
def qA:Code:=MR Pa
def OM:List (Nat×V):=[(1,.ptr 1000001 0 0),(2,.ptr 1000002 0 0),(24,.fn 206 [] [.ptr 1700070 0 0])]
def VaL(b:Z5)(s:ze):List (Nat×Qa):=[(1000001,⟨5,true,[[.str b.ft,.str b.fI,.int .i64 b.fF,.int .i64 b.fC,.int .i64 b.fQ]]⟩),(1000002,⟨1,true,[[.bool false]]⟩),(1700070,⟨1,true,[[.str s]]⟩)]
def XQ(ts:List (Nat×V))(b:Z5)(s:ze):Ext:=Ext.of .normal ts (VaL b s) [] (by rfl)
def VO(b:Z5)(s:ze)(v:Int):TT (Unit):=
 .cl 5002 (lA v) λr404=>
 .br 0 (!r404)
 (.fail)
 (.done ())
theorem Qau(b:Z5)(s:ze)(v:Int):Y0 Tryz.prog GG [1,2,3,28] 60 (I3 Pa) (XQ [(1,.ptr 1000001 0 0),(2,.ptr 1000002 0 0),(3,.int .u8 v)] b s) (VO b s v) (λ(_:Unit)=>XQ [] b s):=by unfold Y0;kernel_rfl
def VI(b:Z5)(s:ze)(v:Int):TT (Unit):=
 .cl 5002 (lA v) λr405=>
 .br 0 (!r405)
 (.done ())
 (.fail)
theorem Qaj(b:Z5)(s:ze)(v:Int):Y0 Tryz.prog GG [1,2,3,28] 60 (I3 Pa) (XQ [(1,.ptr 1000001 0 0),(2,.ptr 1000002 0 0),(3,.int .u8 v)] b s) (VI b s v) (λ(_:Unit)=>Ext.of .ret [] (VaL b s) [] (by rfl)):=by unfold Y0;kernel_rfl
noncomputable def Pn:Code:=(cB (cR (cL (cR (cR (cR (cR (Tryz.f174.body.getD .skip))))))))
def qF:Code:=MR Pn
def OX:List (Nat×V):=[(2,.ptr 1000002 0 0),(5,.ptr 1000005 0 0),(20,.fn 206 [] [.ptr 1700070 0 0])]
def FiL(y:Int)(s:ze):List (Nat×Qa):=[(1000002,⟨1,true,[[.bool false]]⟩),(1000005,⟨1,true,[[.int .i64 y]]⟩),(1700070,⟨1,true,[[.str s]]⟩)]
def XZ(ts:List (Nat×V))(y:Int)(s:ze):Ext:=Ext.of .normal ts (FiL y s) [] (by rfl)
def VG(y:Int)(s:ze)(v:Int):TT (Int):=
 .QV 7 [38]
 (.br 7005 ((Int.tmod y 3)==2)
  (.br 7009 (v != 58)
   (.done true)
   (.br 7013 (decide ((Int.tmod y 3) < 2))
    (.cl 7014 (Sa (bs [48,49,50,51,52,53,54,55,56,57,65,66,67,68,69,70]) v) λr406=>
     .done (decide (r406 < 0)))
    (.done false)))
  (.br 7013 (decide ((Int.tmod y 3) < 2))
   (.cl 7014 (Sa (bs [48,49,50,51,52,53,54,55,56,57,65,66,67,68,69,70]) v) λr407=>
    .done (decide (r407 < 0)))
   (.done false)))
 zm λc408=>
 .br 0 c408
 (.fail)
 (.done (Q0 (y+1)))
theorem Qav(y:Int)(s:ze)(v:Int):Y0 Tryz.prog GG [2,5,6,38] 41 (I3 Pn) (XZ [(2,.ptr 1000002 0 0),(5,.ptr 1000005 0 0),(6,.int .u8 v)] y s) (VG y s v) (λ(r:Int)=>XZ [] r s):=by unfold Y0;kernel_rfl
def VF(y:Int)(s:ze)(v:Int):TT (Unit):=
 .QV 7 [38]
 (.br 7005 ((Int.tmod y 3)==2)
  (.br 7009 (v != 58)
   (.done true)
   (.br 7013 (decide ((Int.tmod y 3) < 2))
    (.cl 7014 (Sa (bs [48,49,50,51,52,53,54,55,56,57,65,66,67,68,69,70]) v) λr409=>
     .done (decide (r409 < 0)))
    (.done false)))
  (.br 7013 (decide ((Int.tmod y 3) < 2))
   (.cl 7014 (Sa (bs [48,49,50,51,52,53,54,55,56,57,65,66,67,68,69,70]) v) λr410=>
    .done (decide (r410 < 0)))
   (.done false)))
 zm λc411=>
 .br 0 c411
 (.done ())
 (.fail)
theorem Qat(y:Int)(s:ze)(v:Int):Y0 Tryz.prog GG [2,5,6,38] 41 (I3 Pn) (XZ [(2,.ptr 1000002 0 0),(5,.ptr 1000005 0 0),(6,.int .u8 v)] y s) (VF y s v) (λ(_:Unit)=>Ext.of .ret [] (FiL y s) [] (by rfl)):=by unfold Y0;kernel_rfl
def PJ(b:Z5)(s:ze):List (Nat×Qa):=(XQ [] b s).bs
theorem Qwc(b:Z5)(s:ze)(v:Int):Y0 Tryz.prog GG [1,2,3,24,25] 60 qA (XQ ((25,.int .u8 v) :: OM) b s) (.done ():TT Unit) (λ_=>XQ [(1,.ptr 1000001 0 0),(2,.ptr 1000002 0 0),(3,.int .u8 v)] b s):=by unfold Y0;kernel_rfl
theorem Qd6(b:Z5)(s:ze)(v:Int):(XQ ((25,.int .u8 v) :: OM) b s |>.D 60).st=Ki (E3 60 (Zm OM) (Qe (PJ b s))) ([25].zip [.int .u8 v]):=by
 rw[H8 (by rfl)];exact(Uj 60 OM _ 25 (.int .u8 v)).symm
theorem Qa2(b:Z5)(s:ze)(v:Int){r:Unit}(hb:(VO b s v).run=some r) :
  JS Tryz.prog GG 60 (Zm OM) [25] qA (I3 Pa) (Qe (PJ b s)) [.int .u8 v] (λe b'=>e=.normal/\b'=Qe (PJ b s)):=by
 refine⟨((XQ [(1,.ptr 1000001 0 0),(2,.ptr 1000002 0 0),(3,.int .u8 v)] b s).D 60).st,?_,?_⟩
 ·have h:=(Qwc b s v).tv Q9 (r:=()) rfl (by rfl);rw[Qd6] at h;exact h
 ·refine((Qau b s v).tv Q9 hb (by rfl)).mono λe s' hg=>?_;obtain⟨rfl,g⟩:=hg;refine⟨_,60,⟨rfl,rfl⟩,?_⟩;rw[H8 (by rfl)] at g;exact g
theorem Qa1(b:Z5)(s:ze)(v:Int)(hb:(VI b s v).run=some ()) :
  JS Tryz.prog GG 60 (Zm OM) [25] qA (I3 Pa) (Qe (PJ b s)) [.int .u8 v] (λe b'=>e=.ret/\b'=Qe (PJ b s)):=by
 refine⟨((XQ [(1,.ptr 1000001 0 0),(2,.ptr 1000002 0 0),(3,.int .u8 v)] b s).D 60).st,?_,?_⟩
 ·have h:=(Qwc b s v).tv Q9 (r:=()) rfl (by rfl);rw[Qd6] at h;exact h
 ·refine((Qaj b s v).tv Q9 hb (by rfl)).mono λe s' hg=>?_;obtain⟨rfl,g⟩:=hg;refine⟨_,60,⟨rfl,rfl⟩,?_⟩;rw[H8 (by rfl)] at g;exact g
section
variable (b:Z5) (l:Nat) (s:ze) (i:Int)
def PY:List (Nat×V):=[(0,.QB l),(1,.ptr 1700070 0 0),(3,.int .i64 i)]
def VaC:Ext:=XQ (PY l i) b s
def VaD(r:Option Int):Ext:=match r with
 | some c=>XQ (PY l i++[(8,.bool true),(9,.QB l),(12,.int .u8 c)]) b s
 | none=>XQ (PY l i++[(8,.bool false)]) b s
theorem Qak:Y0 Tryz.prog GG [0,1,3] 17 (cL BD) (XQ [(0,.QB l),(1,.ptr 1700070 0 0)] b s) (.done ():TT Unit) (λ_=>VaC b l s 0):=by unfold Y0;kernel_rfl
theorem Qaw:K0 Tryz.prog GG [0,1,3,8,9,12] 17 1 pI 9 (VaC b l s i) (VN s i) (VaD b l s i):=by unfold K0;kernel_rfl
theorem Qah:Y0 Tryz.prog GG [0,1,3] 17 aR1 (VaC b l s i) (.done ():TT Unit) (λ_=>VaC b l s (Q0 (i+1))):=by unfold Y0;kernel_rfl
end
def MD(b:Z5)(s:ze)(x:Unit×Int):Option ((Unit×Int)⊕(Unit⊕Unit)):=
 match (VN s x.2).run with
 | none=>none
 | some none=>some (.inr (.inl x.1))
 | some (some c)=>match (VO b s c).run with
  | some y=>some (.inl (y,Q0 (x.2+1)))
  | none=>match (VI b s c).run with
   | some _=>some (.inr (.inr ()))
   | none=>none
def mVa(b:Z5)(s:ze):Option (Unit⊕Unit):=I0 (MD b s) Ys ((),0)
def yVa:YL:=⟨60,Zm OM,#[25],qA,I3 Pa⟩
def oVa(b:Z5)(s:ze):(Unit⊕Unit)->Exit->(zj)->Prop
 | .inl r,e,bw=>e=.normal/\bw=Qe (PJ b s)
 | .inr _,e,bw=>e=.ret/\bw=Qe (PJ b s)
theorem Qyu(b:Z5)(s:ze){r:Unit⊕Unit}(h:mVa b s=some r) :
    UW Tryz.prog GG BD 17 (λl=>[.QB l,.ptr 1700070 0 0]) (Qe (PJ b s)) yVa (oVa b s r):=by
  refine UW.of λl=>?_;have e0:U3 17 [.QB l,.ptr 1700070 0 0] (Qe (PJ b s))=((XQ (U5 [.QB l,.ptr 1700070 0 0]) b s).D 17).st:=(B5 (x:=XQ (U5 [.QB l,.ptr 1700070 0 0]) b s) (by rfl) (by rfl) 17).symm;rw[e0,eAl];show YT _ _ _ _ _ ⟨.normal,((XQ [(0,.QB l),(1,.ptr 1700070 0 0)] b s).D 17).st⟩ _;refine YT.seq (YT.piece (Qak b l s) Q9 rfl (by rfl) λq g=>?_);show YT _ _ _ _ _ _ _;refine YT.XG g (YT.block ?_);refine YT.loop (λm st=>st.x=.normal/\∃z:Unit×Int,QH GG st.st ((VaC b l s z.2).D 17).st/\I0 (MD b s) m z=some r) (λm st hI=>?_) (n:=Ys) ⟨rfl,((),0),QH.same _,h⟩;obtain⟨x,st⟩:=st;obtain⟨rfl,⟨v,i⟩,g,hit⟩:=hI;refine YT.XG g ?_;cases m with
  | zero=>simp[I0] at hit
  | succ m=>
    rw[ZU] at hit;rw[eAL];cases h4:(VN s i).run with
    | none => have hs0 : MD b s (v, i) = none := by unfold MD; simp only [h4]
              rw[hs0] at hit;simp at hit
    | some c=>
    refine YT.seq (YT.seq (YT.region ?_));show J3 _ _ _ _ _ ([0,1,2,3,4,5,6,7,8]++[9,10]) _ _;refine J3.tv ((Qaw b l s i).tv Q9 h4 (by cases c<;>rfl)) λe st hq'=>⟨by rw[hq'.1];cases c<;>rfl,J3.XG hq'.2 ?_⟩;cases c with
    | none=>
      have hs0:MD b s (v,i)=some (.inr (.inl v)):=by unfold MD;simp only[h4]
      rw[hs0] at hit;obtain rfl:_=r:=wh hit;show J3 _ _ _ _ _ _ ⟨.normal,((XQ (PY l i++[(8,.bool false)]) b s).D 17).st⟩ _;refine J3.step rfl (J3.step rfl (J3.nil ?_));show YT _ _ _ _ _ _ _;refine YT.cond (b:=false) rfl (YT.exit ?_);refine⟨.inl rfl,17,Zm (PY l i++[(8,V.bool false),(14,V.bool false)]),Qe (PJ b s),?_,rfl,rfl⟩;rw[show E3 17 (Zm (PY l i++[(8,V.bool false),(14,V.bool false)])) (Qe (PJ b s))=((XQ (PY l i++[(8,V.bool false),(14,V.bool false)]) b s).D 17).st from(H8 (x:=XQ (PY l i++[(8,V.bool false),(14,V.bool false)]) b s) (by rfl) 17).symm];exact W3 (XQ (PY l i++[(8,V.bool false),(14,V.bool false)]) b s) (by rfl) rfl ⟨by rfl,by rfl⟩
    | some c=>
      show J3 _ _ _ _ _ _ ⟨.normal,((XQ (PY l i++[(8,.bool true),(9,.QB l),(12,.int .u8 c)]) b s).D 17).st⟩ _
      have es:=H8 (x:=XQ (PY l i++[(8,V.bool true),(9,V.QB l),(12,V.int .u8 c)]) b s) (by rfl) 17;rw[es];cases h5:(VO b s c).run with
      | some v2=>
        have hs0:MD b s (v,i)=some (.inl (v2,Q0 (i+1))):=by unfold MD;simp only[h4,h5]
        rw[hs0] at hit;refine J3.KO (hi:=rfl) rfl rfl rfl rfl rfl rfl rfl (λi=>L6 (by rfl) i) (λi=>L6 (by rfl) i) (λp hp=>?_) rfl (Qa2 b s c h5) (λe b' h=>.inl h.1) λe b' h=>?_
        · have:p∈[25]:=hp
          simp at this;subst this;exact(by decide:25 < 60)
        obtain⟨rfl,rfl⟩:=h;refine J3.step rfl (J3.nil ?_);show YT _ _ _ _ _ _ _;refine YT.cond (b:=true) rfl (YT.skip ?_);show YT _ _ _ _ _ _ _;refine YT.seq (YT.block (YT.skip ?_));show YT _ _ _ _ _ _ _;refine YT.XG (st':=((VaC b l s i).D 17).st) (W3 (VaC b l s i) (by rfl) rfl ⟨by rfl,by rfl⟩) ?_;refine YT.piece (Qah b l s i) Q9 rfl (by rfl) λq g=>?_;exact⟨m,Nat.lt_succ_self m,rfl,(v2,Q0 (i+1)),g,hit⟩
      | none=>
      cases h6:(VI b s c).run with
      | none => have hs0 : MD b s (v, i) = none := by unfold MD; simp only [h4, h5, h6]
                rw[hs0] at hit;simp at hit
      | some u=>
        have hs0:MD b s (v,i)=some (.inr (.inr ())):=by unfold MD;simp only[h4,h5,h6]
        rw[hs0] at hit;obtain rfl:_=r:=wh hit;refine J3.KO (hi:=rfl) rfl rfl rfl rfl rfl rfl rfl (λi=>L6 (by rfl) i) (λi=>L6 (by rfl) i) (λp hp=>?_) rfl (Qa1 b s c h6) (λe b' h=>.inr (.inl h.1)) λe b' h=>?_
        · have:p∈[25]:=hp
          simp at this;subst this;exact(by decide:25 < 60)
        obtain⟨rfl,rfl⟩:=h;refine J3.step rfl (J3.nil ?_);show YT _ _ _ _ _ _ _;refine YT.cond (b:=false) rfl (YT.exit ?_);refine⟨.inl rfl,17,Zm (PY l i++[(8,V.bool true),(9,V.QB l),(12,V.int .u8 c),(13,V.bool false),(14,V.bool false)]),Qe (PJ b s),?_,rfl,rfl⟩;rw[show E3 17 (Zm (PY l i++[(8,V.bool true),(9,V.QB l),(12,V.int .u8 c),(13,V.bool false),(14,V.bool false)])) (Qe (PJ b s))=((XQ (PY l i++[(8,V.bool true),(9,V.QB l),(12,V.int .u8 c),(13,V.bool false),(14,V.bool false)]) b s).D 17).st from(H8 (x:=XQ (PY l i++[(8,V.bool true),(9,V.QB l),(12,V.int .u8 c),(13,V.bool false),(14,V.bool false)]) b s) (by rfl) 17).symm];exact W3 (XQ (PY l i++[(8,V.bool true),(9,V.QB l),(12,V.int .u8 c),(13,V.bool false),(14,V.bool false)]) b s) (by rfl) rfl ⟨by rfl,by rfl⟩
def OE(b:Z5)(s:ze):Ext:=Ext.of .normal [(1,.ptr 1 0 0),(2,.ptr 2 0 0),(24,.fn 206 [] [.ptr 700070 0 0])] [(1,⟨5,true,[[.str b.ft,.str b.fI,.i b.fF,.i b.fC,.i b.fQ]]⟩),(2,⟨1,true,[[.bool false]]⟩),(700070,⟨1,true,[[.str s]]⟩)] [] (by rfl)
def VaE(b:Z5):(Unit⊕Unit)->Ext
 | .inl _=>Ext.of .normal [(1,.ptr 1 0 0),(2,.ptr 2 0 0)] [(1,⟨5,true,[[.str b.ft,.str b.fI,.i b.fF,.i b.fC,.i b.fQ]]⟩),(2,⟨1,true,[[.bool false]]⟩)] [] (by rfl)
 | .inr _=>Ext.of .ret [(2,.ptr 2 0 0)] [(2,⟨1,true,[[.bool false]]⟩)] [] (by rfl)
theorem bVa(b:Z5)(s:ze):QY (Qe (OE b s).bs)=Qe (PJ b s):=by
 rw[UI];have:((OE b s).bs.map λp=>(sh p.1,p.2.Qb sh))=PJ b s:=by kernel_rfl
 rw[this]
theorem Qy4(b:Z5)(s:ze){r:Unit⊕Unit}(h:mVa b s=some r) :
  TV Tryz.prog GG (.rangeFunc (.tmp 24) #[25] qA (I3 Pa)) ((OE b s).D 60).st (λe st=>e=(VaE b r).ex/\QH GG st ((VaE b r).D 60).st):=by
 have ht:(λi=>W0 sh (((OE b s).D 60).st.t i))=Zm OM:=by
  have:((OE b s).D 60).st.t=Zm (OE b s).ts:=rfl;rw[this,V9]
  have:((OE b s).ts.map λp=>(p.1,W0 sh p.2))=OM:=by kernel_rfl
  rw[this]
 have hb:Tryz.f206.body=some BD:=by kernel_rfl
 refine TV.AK (f:=206) (fi:=Tryz.f206) (c:=BD) (first:=[]) (caps:=[.ptr 1700070 0 0]) (R:=λe bw=>oVa b s r e bw) ?_ Tryz.func206 hb (by kernel_rfl) (by kernel_rfl) ?_ (λi=>?_) ?_ ?_
 ·show some ((λi=>W0 sh (((OE b s).D 60).st.t i)) 24)=_;rw[ht];rfl
 ·intro bq k hk;obtain⟨q,h1,rfl,_⟩:=Yn (show Qe (OE b s).bs bq=some k from hk);show ((((OE b s).us).contains q.1 || Qk q.1))=true;simp only[Ext.us,zY,wj,zI];exact .inl (zM.2 ⟨q,h1,rfl⟩)
 ·have:=congrFun ht i;rw[show W0 sh (((OE b s).D 60).st.t i)=Zm OM i from this];exact L6 (by rfl) i
 ·have hbb:QY ((OE b s).D 60).st.b=Qe (PJ b s):=bVa b s;rw[ht,hbb]
  have e:max Tryz.f206.ntmps (([]:List V).length+1+[V.ptr 1700070 0 0].length)=17:=by kernel_rfl
  rw[e];exact Qyu b s h
 ·intro e b' ho;rcases r with r|r
  ·obtain⟨rfl,rfl⟩:=ho;exact⟨.inl rfl,Qe (OE b s).bs,(bVa b s).symm,Yj (ts:=(OE b s).ts) (bs:=(OE b s).bs) (us:=(OE b s).us) (by rfl) (by rfl),rfl,W3 (VaE b (.inl r)) (by rfl) rfl ⟨by rfl,by rfl⟩⟩
  ·obtain⟨rfl,rfl⟩:=ho;exact⟨.inr (.inl rfl),Qe (OE b s).bs,(bVa b s).symm,Yj (ts:=(OE b s).ts) (bs:=(OE b s).bs) (us:=(OE b s).us) (by rfl) (by rfl),rfl,W3 (VaE b (.inr ())) (by rfl) rfl ⟨by rfl,by rfl⟩⟩
def Qhh(b:Z5)(s:ze):Sub Tryz.prog GG (Unit⊕Unit):=
 ⟨.rangeFunc (.tmp 24) #[25] qA (I3 Pa),60,OE b s,mVa b s,VaE b ,λ_ h=>Qy4 b s h⟩
def PH(y:Int)(s:ze):List (Nat×Qa):=(XZ [] y s).bs
theorem Qk0(y:Int)(s:ze)(v:Int):Y0 Tryz.prog GG [2,5,6,20,21] 41 qF (XZ ((21,.int .u8 v) :: OX) y s) (.done ():TT Unit) (λ_=>XZ [(2,.ptr 1000002 0 0),(5,.ptr 1000005 0 0),(6,.int .u8 v)] y s):=by unfold Y0;kernel_rfl
theorem Qd7(y:Int)(s:ze)(v:Int):(XZ ((21,.int .u8 v) :: OX) y s |>.D 41).st=Ki (E3 41 (Zm OX) (Qe (PH y s))) ([21].zip [.int .u8 v]):=by
 rw[H8 (by rfl)];exact(Uj 41 OX _ 21 (.int .u8 v)).symm
theorem Qa6(y:Int)(s:ze)(v:Int){r:Int}(hb:(VG y s v).run=some r) :
  JS Tryz.prog GG 41 (Zm OX) [21] qF (I3 Pn) (Qe (PH y s)) [.int .u8 v] (λe b'=>e=.normal/\b'=Qe (PH r s)):=by
 refine⟨((XZ [(2,.ptr 1000002 0 0),(5,.ptr 1000005 0 0),(6,.int .u8 v)] y s).D 41).st,?_,?_⟩
 ·have h:=(Qk0 y s v).tv Q9 (r:=()) rfl (by rfl);rw[Qd7] at h;exact h
 ·refine((Qav y s v).tv Q9 hb (by rfl)).mono λe s' hg=>?_;obtain⟨rfl,g⟩:=hg;refine⟨_,41,⟨rfl,rfl⟩,?_⟩;rw[H8 (by rfl)] at g;exact g
theorem Qa5(y:Int)(s:ze)(v:Int)(hb:(VF y s v).run=some ()) :
  JS Tryz.prog GG 41 (Zm OX) [21] qF (I3 Pn) (Qe (PH y s)) [.int .u8 v] (λe b'=>e=.ret/\b'=Qe (PH y s)):=by
 refine⟨((XZ [(2,.ptr 1000002 0 0),(5,.ptr 1000005 0 0),(6,.int .u8 v)] y s).D 41).st,?_,?_⟩
 ·have h:=(Qk0 y s v).tv Q9 (r:=()) rfl (by rfl);rw[Qd7] at h;exact h
 ·refine((Qat y s v).tv Q9 hb (by rfl)).mono λe s' hg=>?_;obtain⟨rfl,g⟩:=hg;refine⟨_,41,⟨rfl,rfl⟩,?_⟩;rw[H8 (by rfl)] at g;exact g
section
variable (l:Nat) (y:Int) (s:ze) (i:Int)
def Fit:List (Nat×V):=[(0,.QB l),(1,.ptr 1700070 0 0),(3,.int .i64 i)]
def FiC:Ext:=XZ (Fit l i) y s
def FiD(r:Option Int):Ext:=match r with
 | some c=>XZ (Fit l i++[(8,.bool true),(9,.QB l),(12,.int .u8 c)]) y s
 | none=>XZ (Fit l i++[(8,.bool false)]) y s
theorem Qi2:Y0 Tryz.prog GG [0,1,3] 17 (cL BD) (XZ [(0,.QB l),(1,.ptr 1700070 0 0)] y s) (.done ():TT Unit) (λ_=>FiC l y s 0):=by unfold Y0;kernel_rfl
theorem Qi1:K0 Tryz.prog GG [0,1,3,8,9,12] 17 1 pI 9 (FiC l y s i) (VN s i) (FiD l y s i):=by unfold K0;kernel_rfl
theorem Qi0:Y0 Tryz.prog GG [0,1,3] 17 aR1 (FiC l y s i) (.done ():TT Unit) (λ_=>FiC l y s (Q0 (i+1))):=by unfold Y0;kernel_rfl
end
def MX(s:ze)(x:Int×Int):Option ((Int×Int)⊕(Int⊕Unit)):=
 match (VN s x.2).run with
 | none=>none
 | some none=>some (.inr (.inl x.1))
 | some (some c)=>match (VG x.1 s c).run with
  | some y=>some (.inl (y,Q0 (x.2+1)))
  | none=>match (VF x.1 s c).run with
   | some _=>some (.inr (.inr ()))
   | none=>none
def mFi(y:Int)(s:ze):Option (Int⊕Unit):=I0 (MX s) Ys (y,0)
def yFi:YL:=⟨41,Zm OX,#[21],qF,I3 Pn⟩
def oFi(s:ze):(Int⊕Unit)->Exit->(zj)->Prop
 | .inl r,e,bw=>e=.normal/\bw=Qe (PH r s)
 | .inr _,e,bw=>e=.ret/\∃r,bw=Qe (PH r s)
theorem Qyk(y:Int)(s:ze){r:Int⊕Unit}(h:mFi y s=some r) :
    UW Tryz.prog GG BD 17 (λl=>[.QB l,.ptr 1700070 0 0]) (Qe (PH y s)) yFi (oFi s r):=by
  refine UW.of λl=>?_;have e0:U3 17 [.QB l,.ptr 1700070 0 0] (Qe (PH y s))=((XZ (U5 [.QB l,.ptr 1700070 0 0]) y s).D 17).st:=(B5 (x:=XZ (U5 [.QB l,.ptr 1700070 0 0]) y s) (by rfl) (by rfl) 17).symm;rw[e0,eAl];show YT _ _ _ _ _ ⟨.normal,((XZ [(0,.QB l),(1,.ptr 1700070 0 0)] y s).D 17).st⟩ _;refine YT.seq (YT.piece (Qi2 l y s) Q9 rfl (by rfl) λq g=>?_);show YT _ _ _ _ _ _ _;refine YT.XG g (YT.block ?_);refine YT.loop (λm st=>st.x=.normal/\∃z:Int×Int,QH GG st.st ((FiC l z.1 s z.2).D 17).st/\I0 (MX s) m z=some r) (λm st hI=>?_) (n:=Ys) ⟨rfl,(y,0),QH.same _,h⟩;obtain⟨x,st⟩:=st;obtain⟨rfl,⟨v,i⟩,g,hit⟩:=hI;refine YT.XG g ?_;cases m with
  | zero=>simp[I0] at hit
  | succ m=>
    rw[ZU] at hit;rw[eAL];cases h4:(VN s i).run with
    | none => have hs0 : MX s (v, i) = none := by unfold MX; simp only [h4]
              rw[hs0] at hit;simp at hit
    | some c=>
    refine YT.seq (YT.seq (YT.region ?_));show J3 _ _ _ _ _ ([0,1,2,3,4,5,6,7,8]++[9,10]) _ _;refine J3.tv ((Qi1 l v s i).tv Q9 h4 (by cases c<;>rfl)) λe st hq'=>⟨by rw[hq'.1];cases c<;>rfl,J3.XG hq'.2 ?_⟩;cases c with
    | none=>
      have hs0:MX s (v,i)=some (.inr (.inl v)):=by unfold MX;simp only[h4]
      rw[hs0] at hit;obtain rfl:_=r:=wh hit;show J3 _ _ _ _ _ _ ⟨.normal,((XZ (Fit l i++[(8,.bool false)]) v s).D 17).st⟩ _;refine J3.step rfl (J3.step rfl (J3.nil ?_));show YT _ _ _ _ _ _ _;refine YT.cond (b:=false) rfl (YT.exit ?_);refine⟨.inl rfl,17,Zm (Fit l i++[(8,V.bool false),(14,V.bool false)]),Qe (PH v s),?_,rfl,rfl⟩;rw[show E3 17 (Zm (Fit l i++[(8,V.bool false),(14,V.bool false)])) (Qe (PH v s))=((XZ (Fit l i++[(8,V.bool false),(14,V.bool false)]) v s).D 17).st from(H8 (x:=XZ (Fit l i++[(8,V.bool false),(14,V.bool false)]) v s) (by rfl) 17).symm];exact W3 (XZ (Fit l i++[(8,V.bool false),(14,V.bool false)]) v s) (by rfl) rfl ⟨by rfl,by rfl⟩
    | some c=>
      show J3 _ _ _ _ _ _ ⟨.normal,((XZ (Fit l i++[(8,.bool true),(9,.QB l),(12,.int .u8 c)]) v s).D 17).st⟩ _
      have es:=H8 (x:=XZ (Fit l i++[(8,V.bool true),(9,V.QB l),(12,V.int .u8 c)]) v s) (by rfl) 17;rw[es];cases h5:(VG v s c).run with
      | some v2=>
        have hs0:MX s (v,i)=some (.inl (v2,Q0 (i+1))):=by unfold MX;simp only[h4,h5]
        rw[hs0] at hit;refine J3.KO (hi:=rfl) rfl rfl rfl rfl rfl rfl rfl (λi=>L6 (by rfl) i) (λi=>L6 (by rfl) i) (λp hp=>?_) rfl (Qa6 v s c h5) (λe b' h=>.inl h.1) λe b' h=>?_
        · have:p∈[21]:=hp
          simp at this;subst this;exact(by decide:21 < 41)
        obtain⟨rfl,rfl⟩:=h;refine J3.step rfl (J3.nil ?_);show YT _ _ _ _ _ _ _;refine YT.cond (b:=true) rfl (YT.skip ?_);show YT _ _ _ _ _ _ _;refine YT.seq (YT.block (YT.skip ?_));show YT _ _ _ _ _ _ _;refine YT.XG (st':=((FiC l v2 s i).D 17).st) (W3 (FiC l v2 s i) (by rfl) rfl ⟨by rfl,by rfl⟩) ?_;refine YT.piece (Qi0 l v2 s i) Q9 rfl (by rfl) λq g=>?_;exact⟨m,Nat.lt_succ_self m,rfl,(v2,Q0 (i+1)),g,hit⟩
      | none=>
      cases h6:(VF v s c).run with
      | none => have hs0 : MX s (v, i) = none := by unfold MX; simp only [h4, h5, h6]
                rw[hs0] at hit;simp at hit
      | some u=>
        have hs0:MX s (v,i)=some (.inr (.inr ())):=by unfold MX;simp only[h4,h5,h6]
        rw[hs0] at hit;obtain rfl:_=r:=wh hit;refine J3.KO (hi:=rfl) rfl rfl rfl rfl rfl rfl rfl (λi=>L6 (by rfl) i) (λi=>L6 (by rfl) i) (λp hp=>?_) rfl (Qa5 v s c h6) (λe b' h=>.inr (.inl h.1)) λe b' h=>?_
        · have:p∈[21]:=hp
          simp at this;subst this;exact(by decide:21 < 41)
        obtain⟨rfl,rfl⟩:=h;refine J3.step rfl (J3.nil ?_);show YT _ _ _ _ _ _ _;refine YT.cond (b:=false) rfl (YT.exit ?_);refine⟨.inl rfl,17,Zm (Fit l i++[(8,V.bool true),(9,V.QB l),(12,V.int .u8 c),(13,V.bool false),(14,V.bool false)]),Qe (PH v s),?_,rfl,v,rfl⟩;rw[show E3 17 (Zm (Fit l i++[(8,V.bool true),(9,V.QB l),(12,V.int .u8 c),(13,V.bool false),(14,V.bool false)])) (Qe (PH v s))=((XZ (Fit l i++[(8,V.bool true),(9,V.QB l),(12,V.int .u8 c),(13,V.bool false),(14,V.bool false)]) v s).D 17).st from(H8 (x:=XZ (Fit l i++[(8,V.bool true),(9,V.QB l),(12,V.int .u8 c),(13,V.bool false),(14,V.bool false)]) v s) (by rfl) 17).symm];exact W3 (XZ (Fit l i++[(8,V.bool true),(9,V.QB l),(12,V.int .u8 c),(13,V.bool false),(14,V.bool false)]) v s) (by rfl) rfl ⟨by rfl,by rfl⟩
def OA(y:Int)(s:ze):Ext:=Ext.of .normal [(2,.ptr 2 0 0),(5,.ptr 5 0 0),(20,.fn 206 [] [.ptr 700070 0 0])] [(2,⟨1,true,[[.bool false]]⟩),(5,⟨1,true,[[.i y]]⟩),(700070,⟨1,true,[[.str s]]⟩)] [] (by rfl)
def FiE:(Int⊕Unit)->Ext
 | .inl r=>Ext.of .normal [(2,.ptr 2 0 0),(5,.ptr 5 0 0)] [(2,⟨1,true,[[.bool false]]⟩),(5,⟨1,true,[[.i r]]⟩)] [] (by rfl)
 | .inr _=>Ext.of .ret [(2,.ptr 2 0 0)] [(2,⟨1,true,[[.bool false]]⟩)] [] (by rfl)
theorem bFi(y:Int)(s:ze):QY (Qe (OA y s).bs)=Qe (PH y s):=by
 rw[UI];have:((OA y s).bs.map λp=>(sh p.1,p.2.Qb sh))=PH y s:=by kernel_rfl
 rw[this]
theorem Qy7(y:Int)(s:ze){r:Int⊕Unit}(h:mFi y s=some r) :
  TV Tryz.prog GG (.rangeFunc (.tmp 20) #[21] qF (I3 Pn)) ((OA y s).D 41).st (λe st=>e=(FiE r).ex/\QH GG st ((FiE r).D 41).st):=by
 have ht:(λi=>W0 sh (((OA y s).D 41).st.t i))=Zm OX:=by
  have:((OA y s).D 41).st.t=Zm (OA y s).ts:=rfl;rw[this,V9]
  have:((OA y s).ts.map λp=>(p.1,W0 sh p.2))=OX:=by kernel_rfl
  rw[this]
 have hb:Tryz.f206.body=some BD:=by kernel_rfl
 refine TV.AK (f:=206) (fi:=Tryz.f206) (c:=BD) (first:=[]) (caps:=[.ptr 1700070 0 0]) (R:=λe bw=>oFi s r e bw) ?_ Tryz.func206 hb (by kernel_rfl) (by kernel_rfl) ?_ (λi=>?_) ?_ ?_
 ·show some ((λi=>W0 sh (((OA y s).D 41).st.t i)) 20)=_;rw[ht];rfl
 ·intro bq k hk;obtain⟨q,h1,rfl,_⟩:=Yn (show Qe (OA y s).bs bq=some k from hk);show ((((OA y s).us).contains q.1 || Qk q.1))=true;simp only[Ext.us,zY,wj,zI];exact .inl (zM.2 ⟨q,h1,rfl⟩)
 ·have:=congrFun ht i;rw[show W0 sh (((OA y s).D 41).st.t i)=Zm OX i from this];exact L6 (by rfl) i
 ·have hbb:QY ((OA y s).D 41).st.b=Qe (PH y s):=bFi y s;rw[ht,hbb]
  have e:max Tryz.f206.ntmps (([]:List V).length+1+[V.ptr 1700070 0 0].length)=17:=by kernel_rfl
  rw[e];exact Qyk y s h
 ·intro e b' ho;rcases r with r|r
  ·obtain⟨rfl,rfl⟩:=ho;exact⟨.inl rfl,Qe (OA r s).bs,(bFi r s).symm,Yj (ts:=(OA y s).ts) (bs:=(OA r s).bs) (us:=(OA y s).us) (by rfl) (by rfl),rfl,W3 (FiE (.inl r)) (by rfl) rfl ⟨by rfl,by rfl⟩⟩
  ·obtain⟨rfl,r,rfl⟩:=ho;exact⟨.inr (.inl rfl),Qe (OA r s).bs,(bFi r s).symm,Yj (ts:=(OA y s).ts) (bs:=(OA r s).bs) (us:=(OA y s).us) (by rfl) (by rfl),rfl,W3 (FiE (.inr ())) (by rfl) rfl ⟨by rfl,by rfl⟩⟩
def jD(y:Int)(s:ze):Sub Tryz.prog GG (Int⊕Unit):=
 ⟨.rangeFunc (.tmp 20) #[21] qF (I3 Pn),41,OA y s,mFi y s,FiE ,λ_ h=>Qy7 y s h⟩
def Qxg :Sp (Unit):=.Ze 201 [] Q9 Tryz.func201 rfl (λ_=>rfl) (show Jx Pg GG [0,2,3,4,5,9,16] Tryz.f201 [.str (bs [46,45])] (Ext.of .normal (U5 [.str (bs [46,45])]) [] [] (by rfl)) (.tt (.ff (.tt (.ff (.ff (.done ()))))):TT (Unit)) (λ(r:Unit)=>.Qt [.agg (X9 45 (.bool false) (H4 [.bool true,.bool true] (X9 209 (.bool false) []))),.bool true]) (λ(r:Unit)=>Ext.of .normal [] [] [] (by rfl)) by unfold Jx;kernel_rfl)
def Qkx(p0:Int):TT (Bool):=.HU 1004 p0 [0,1,2,3,4,5,6,7,8,9,10,11,12,13,14,15,16,17,18,19,20,21,22,23,24,25,26,27,28,29,30,31,32,33,34,35,36,37,38,39,40,41,42,43,44,45,46,47,48,49,50,51,52,53,54,55,56,57,58,59,60,61,62,63,64,65,66,67,68,69,70,71,72,73,74,75,76,77,78,79,80,81,82,83,84,85,86,87,88,89,90,91,92,93,94,95,96,97,98,99,100,101,102,103,104,105,106,107,108,109,110,111,112,113,114,115,116,117,118,119,120,121,122,123,124,125,126,127,128,129,130,131,132,133,134,135,136,137,138,139,140,141,142,143,144,145,146,147,148,149,150,151,152,153,154,155,156,157,158,159,160,161,162,163,164,165,166,167,168,169,170,171,172,173,174,175,176,177,178,179,180,181,182,183,184,185,186,187,188,189,190,191,192,193,194,195,196,197,198,199,200,201,202,203,204,205,206,207,208,209,210,211,212,213,214,215,216,217,218,219,220,221,222,223,224,225,226,227,228,229,230,231,232,233,234,235,236,237,238,239,240,241,242,243,244,245,246,247,248,249,250,251,252,253,254,255] (λv=>bif [45,46].contains v then .done true else .done false)
def lJ(p0:Int):Sp (Bool):=oF [0,1,4] Tryz.func243 [.snap (X9 45 (.bool false) (H4 [.bool true,.bool true] (X9 209 (.bool false) []))),.int .u8 p0] (Qkx p0) (λr=>.bool r)
def Qm6(p0:ze):TT (ze):=.bind 1 (.lp (λ(l416:ze)=>Ext.l .normal [(0,.str l416),(1,.snap (X9 45 (.bool false) (H4 [.bool true,.bool true] (X9 209 (.bool false) [])))),(4,.str zg)] []) (λl416=>.br 0 (decide ((0:Int) < (l416.size:Int))) (.Qf 2006 (decide (0<=(Q0 ((l416.size:Int) - 1))/\(Q0 ((l416.size:Int) - 1)) < (l416.size:Int))) (.cl 2007 (lJ (QZ l416 (Q0 ((l416.size:Int) - 1)))) λr417=>.br 0 (!r417) (.done (.inr l416)) (.Qf 3005 (decide (0<=(Q0 ((l416.size:Int) - 1)))&&decide ((Q0 ((l416.size:Int) - 1))<=(l416.size:Int))) (.done (.inl (l416.extract 0 ((Q0 ((l416.size:Int) - 1)).toNat))))))) (.done (.inr l416))) p0) (λ(e418:ze)=>Ext.l (.exit 0) [(0,.str e418),(4,.str zg)] []) (λe418=>.done e418)
def vY(p0:ze):Sp (ze):=oF [0,1,4,7,15] Tryz.func203 [.str p0,.snap (X9 45 (.bool false) (H4 [.bool true,.bool true] (X9 209 (.bool false) [])))] (Qm6 p0) (λr=>.str r)
def Qm7(p0:ze):TT (ze):=.bind 1 (.lp (λ(l422:ze)=>Ext.l .normal [(0,.str l422),(1,.snap (X9 45 (.bool false) (H4 [.bool true,.bool true] (X9 209 (.bool false) [])))),(4,.str zg)] []) (λl422=>.br 0 (decide ((0:Int) < (l422.size:Int))) (.Qf 2003 (decide (0<=(0:Int)/\(0:Int) < (l422.size:Int))) (.cl 2004 (lJ (QZ l422 0)) λr423=>.br 0 (!r423) (.done (.inr l422)) (.Qf 3002 (decide (0<=(1:Int))&&decide ((1:Int)<=(l422.size:Int))) (.done (.inl (l422.extract 1 l422.size)))))) (.done (.inr l422))) p0) (λ(e424:ze)=>Ext.l (.exit 0) [(0,.str e424),(4,.str zg)] []) (λe424=>.done e424)
def vJ(p0:ze):Sp (ze):=oF [0,1,4,7,12] Tryz.func202 [.str p0,.snap (X9 45 (.bool false) (H4 [.bool true,.bool true] (X9 209 (.bool false) [])))] (Qm7 p0) (λr=>.str r)
def Qmt(p0:ze):TT (ze):=.QV 1 [12] (.an 1004 (decide (p0=zg)) (.done true)) zm λc412=>.br 0 c412 (.done p0) (.ff (.cl 5002 Qxg λr413=>.tt (.view 7002 (vY p0) [] λr419=>.view 7003 (vJ r419) [] λr425=>.done r425)))
def Qq1(p0:ze):Sp (ze):=oF [0,1,4,5,6,12,21,34] Tryz.func149 [.str p0,.str (bs [46,45])] (Qmt p0) (λr=>.str r)
def Qq0(p0:ze):Sp (Unit):=.Ze 150 [] Q9 Tryz.func150 rfl (λ_=>rfl) (show Jx Pg GG [0,1,2] Tryz.f150 [.str p0] (Ext.of .normal (U5 [.str p0]) [] [] (by rfl)) (.done ():TT (Unit)) (λ(r:Unit)=>.fn 206 [] [.ptr 1 0 0]) (λ(r:Unit)=>Ext.of .normal [] [(1,⟨1,true,[[.str p0]]⟩)] [] (by rfl)) by unfold Jx;kernel_rfl)
def bU(p0:Z5):TT (Bool):=.QV 1 [21] (.oR 1006 (decide ((p0.ft.size:Int) < 1)) (.oR 1012 (decide ((32:Int) < (p0.ft.size:Int))) (.cl 1014 (Qq1 p0.ft) λr426=>.done (!decide (r426=p0.ft))))) zm λc427=>.br 0 c427 (.done false) (.call 3003 (Qq0 p0.ft) [] [(1,500011)] λr428=>.gh 1 (.Qb 500011 700070) (.EA (Qhh p0 p0.ft) (λr429=>.an 7006 ((p0.fI.size:Int)==32) (.an 7011 (decide ((0:Int)<=p0.fF)) (.an 7018 (decide (p0.fF<=p0.fC)) (.an 7023 (decide (p0.fC<=1099511627776)) (.an 7028 (decide ((0:Int)<=p0.fQ)) (.done (decide (p0.fQ<=281474976710655)))))))) λr430=>.done false))
def OB(p0:Z5):Sp (Bool):=oF [0,1,2,3,21,24,25,28] Tryz.func91 [.agg [.str p0.ft,.str p0.fI,.i p0.fF,.i p0.fC,.i p0.fQ]] (bU p0) (λr=>.bool r)
def g99(p0 p1:ze):TT (Bool):=.QV 1 [4] (.an 1007 (decide ((p1.size:Int)<=(p0.size:Int))) (.Qf 1010 (decide (0<=(p1.size:Int))&&decide ((p1.size:Int)<=(p0.size:Int))) (.done (decide ((p0.extract 0 ((p1.size:Int).toNat))=p1))))) zm λc431=>.done c431
def s99(p0 p1:ze):Sp (Bool):=oF [0,1,4] Tryz.func99 [.str p0,.str p1] (g99 p0 p1) (λr=>.bool r)
def Qkm(p0 p1:ze):TT (ze×Bool):=.cl 1003 (s99 p0 p1) λr432=>.br 0 (!r432) (.done (p0,false)) (.Qf 3004 (decide (0<=(p1.size:Int))&&decide ((p1.size:Int)<=(p0.size:Int))) (.done ((p0.extract ((p1.size:Int).toNat) p0.size),true)))
def tI(p0 p1:ze):Sp (ze×Bool):=oF [0,1,4,5,9] Tryz.func253 [.str p0,.str p1] (Qkm p0 p1) (λr=>.Qt [.str r.1,.bool r.2])
def Qkv(p0 p1:ze):TT (ze×Bool):=.cl 1003 (tI p0 p1) λr433=>.done (r433.1,r433.2)
def tS(p0 p1:ze):Sp (ze×Bool):=oF [0,1,4,5] Tryz.func219 [.str p0,.str p1] (Qkv p0 p1) (λr=>.Qt [.str r.1,.bool r.2])
def dW(p0:ze):TT (Bool):=.cl 1002 (tS p0 (bs [115,104,97,45,50,53,54,32])) λr434=>.QV 2 [18] (.oR 2004 (!r434.2) (.done ((r434.1.size:Int) != 95))) zm λc435=>.br 0 c435 (.done false) (.call 5002 (Qq0 r434.1) [] [(1,500012)] λr436=>.gh 1 (.Qb 500012 700070) (.EA (jD 0 r434.1) (λr437=>.done true) λr438=>.done false))
def Ff(p0:ze):Sp (Bool):=oF [0,2,3,4,5,6,18,20,21,38] Tryz.func174 [.str p0] (dW p0) (λr=>.bool r)
end Go.Proofs.YtjdieimefebnfaaGreatDoor
namespace Go.Proofs
open Go.Shelf
def Tryz.jnR:Go.Shelf.Ren:=⟨fun|105=>23|212=>50|99=>51|165=>52|166=>53|170=>54|169=>55|263=>97|264=>98|206=>99|240=>100|241=>101|276=>157|277=>158|156=>152|n=>n,
 fun|9=>9|3=>3|4=>4|20=>20|0=>0|46=>52|109=>111|5=>5|72=>116|76=>119|51=>163|146=>164|53=>137|148=>166|70=>114|37=>57|75=>118|127=>168|164=>219|80=>122|31=>40|n=>n,λn=>n⟩
theorem Tryz.Kz:Lays.n105 Tryz.prog Tryz.jnR where
 mixed:=by kernel_rfl
 f99:=Tryz.func51.trans (congrArg some (by kernel_rfl))
 f105:=Tryz.func23.trans (congrArg some (by kernel_rfl))
 f165:=Tryz.func52.trans (congrArg some (by kernel_rfl))
 f166:=Tryz.func53.trans (congrArg some (by kernel_rfl))
 f169:=Tryz.func55.trans (congrArg some (by kernel_rfl))
 f170:=Tryz.func54.trans (congrArg some (by kernel_rfl))
 f206:=Tryz.func99.trans (congrArg some (by kernel_rfl))
 f212:=Tryz.func50.trans (congrArg some (by kernel_rfl))
 f240:=Tryz.func100.trans (congrArg some (by kernel_rfl))
 f241:=Tryz.func101.trans (congrArg some (by kernel_rfl))
 f263:=Tryz.func97.trans (congrArg some (by kernel_rfl))
 f264:=Tryz.func98.trans (congrArg some (by kernel_rfl))
 f276:=Tryz.func157.trans (congrArg some (by kernel_rfl))
 f277:=Tryz.func158.trans (congrArg some (by kernel_rfl))
 t0:=Tryz.underlying0
 a0:=Tryz.isAgg0
 z0:=Tryz.sizeOf0
 v0:=Tryz.zeroValue0
 t3:=Tryz.underlying3
 a3:=Tryz.isAgg3
 z3:=Tryz.sizeOf3
 v3:=Tryz.zeroValue3
 t4:=Tryz.underlying4
 a4:=Tryz.isAgg4
 z4:=Tryz.sizeOf4
 v4:=Tryz.zeroValue4
 t5:=Tryz.underlying5
 a5:=Tryz.isAgg5
 z5:=Tryz.sizeOf5
 v5:=Tryz.zeroValue5
 t9:=Tryz.underlying9
 a9:=Tryz.isAgg9
 z9:=Tryz.sizeOf9
 v9:=Tryz.zeroValue9
 t20:=Tryz.underlying20
 a20:=Tryz.isAgg20
 z20:=Tryz.sizeOf20
 v20:=Tryz.zeroValue20
 t37:=Tryz.underlying57
 a37:=Tryz.isAgg57
 z37:=Tryz.sizeOf57
 v37:=Tryz.zeroValue57
 t46:=Tryz.underlying52
 a46:=Tryz.isAgg52
 z46:=Tryz.sizeOf52
 v46:=Tryz.zeroValue52
 t51:=Tryz.underlying163
 a51:=Tryz.isAgg163
 z51:=Tryz.sizeOf163
 v51:=Tryz.zeroValue163
 t53:=Tryz.underlying137
 a53:=Tryz.isAgg137
 z53:=Tryz.sizeOf137
 v53:=Tryz.zeroValue137
 t70:=Tryz.underlying114
 a70:=Tryz.isAgg114
 z70:=Tryz.sizeOf114
 v70:=Tryz.zeroValue114
 t72:=Tryz.underlying116
 a72:=Tryz.isAgg116
 z72:=Tryz.sizeOf116
 v72:=Tryz.zeroValue116
 t75:=Tryz.underlying118
 a75:=Tryz.isAgg118
 z75:=Tryz.sizeOf118
 v75:=Tryz.zeroValue118
 t76:=Tryz.underlying119
 a76:=Tryz.isAgg119
 z76:=Tryz.sizeOf119
 v76:=Tryz.zeroValue119
 t109:=Tryz.underlying111
 a109:=Tryz.isAgg111
 z109:=Tryz.sizeOf111
 v109:=Tryz.zeroValue111
 t127:=Tryz.underlying168
 a127:=Tryz.isAgg168
 z127:=Tryz.sizeOf168
 v127:=Tryz.zeroValue168
 t146:=Tryz.underlying164
 a146:=Tryz.isAgg164
 z146:=Tryz.sizeOf164
 v146:=Tryz.zeroValue164
 t148:=Tryz.underlying166
 a148:=Tryz.isAgg166
 z148:=Tryz.sizeOf166
 v148:=Tryz.zeroValue166
 t164:=Tryz.underlying219
 a164:=Tryz.isAgg219
 z164:=Tryz.sizeOf219
 v164:=Tryz.zeroValue219
theorem Tryz.Gu : Lays.n156 Tryz.prog Tryz.jnR := { Tryz.Kz with
 f156:=Tryz.func152.trans (congrArg some (by kernel_rfl))
 t31:=Tryz.underlying40
 a31:=Tryz.isAgg40
 z31:=Tryz.sizeOf40
 v31 := Tryz.zeroValue40 }
theorem Tryz.jnX:Builder.Extra Tryz.prog Tryz.jnR where
 sizeBuilder:=by kernel_rfl
 liesBuilder:=by kernel_rfl
 t5:=Tryz.Kz.t5
 a5:=Tryz.Kz.a5
 z5:=Tryz.Kz.z5
 v5:=Tryz.Kz.v5
 infoByte:=by kernel_rfl
 cellsByte:=by kernel_rfl
 sizeByte:=by kernel_rfl
 neB5:=by decide
end Go.Proofs
namespace Go.Proofs.YtjdieimefebnfaaGreatDoor
open Go Go.EV
theorem To{α:Type}{c:Bool}{x r:α}(h:(T.Qf (P:=Tryz.prog) (G:=GG) 0 c (.done x)).run=some r):c=true/\r=x:=by
 have e:(T.Qf (P:=Tryz.prog) (G:=GG) 0 c (.done x)).run=(bif c then some x else none):=rfl;grind
def Qqr(s:ze)(n:Nat):ze:=⟨(Lib.repeatL s.data.toList n).toArray⟩
def g23(p0:ze)(p1:Int):TT ze:=.Qf 0 (decide (0<=p1/\p1<=9223372036854775807/\p0.size * p1.toNat<=140737488355328)) (.done (Qqr p0 p1.toNat))
theorem k23(p0:ze)(p1:Int)(r:ze)(h:(g23 p0 p1).run=some r):QS Tryz.prog GG 23 [.str p0,.int .i64 p1] (Qe []) (.str r) (Qe []):=by
 obtain⟨h1,rfl⟩:=To h;have h1:=of_decide_eq_true h1;refine Hw (λγ w av hc=>?_) λ_ _ _ _=>.data (.str _);obtain⟨a,b,rfl,ha,hb⟩:=Ph hc;obtain rfl:=ha.QD;obtain rfl:=hb.Qn;have e:(p1.toNat:Int)=p1:=by omega
 have:=Any.strings_Repeat Tryz.Kz Tryz.jnX p0 p1.toNat w (by omega) h1.2.2;rw[e] at this;exact this
def Pc(p0:ze)(p1:Int):Sp ze:=⟨23,[.str p0,.int .i64 p1],[],(g23 p0 p1).run,λr=>.str r,λ_=>[],[],λ_ _ h=>by simp at h,λr h=>k23 p0 p1 r h⟩
theorem dO(l:List ze):(List.map Z6.c l).flatten=l.map V.str:=by
 induction l with
 | nil=>rfl
 | cons x l ih=>exact congrArg (V.str x :: ·) ih
def KU(l:List ze)(s:ze):ze:=⟨(Lib.join (l.map (·.data.toList)) s.data.toList).toArray⟩
def rG(p0:List ze)(p1:ze):TT ze:=.Qf 0 (decide (p0.length<=140737488355328/\(KU p0 p1).size<=140737488355328)) (.done (KU p0 p1))
theorem Qio(p0:List ze)(p1:ze)(r:ze)(h:(rG p0 p1).run=some r):QS Tryz.prog GG 152 [.sl false 1 (List.map Z6.c p0),.str p1] (Qe []) (.str r) (Qe []):=by
 obtain⟨h1,rfl⟩:=To h;have h1:=of_decide_eq_true h1;refine Hw (λγ w av hc=>?_) λ_ _ _ _=>.data (.str _);obtain⟨a,b,rfl,ha,hb⟩:=Ph hc;obtain rfl:=hb.QD;rcases ha.HP with⟨a,rfl,e⟩|⟨B,o,cap,vs,rfl,k1,k2,k3,k4⟩
 ·obtain rfl:p0=[]:=by simpa using e
  exact(Any.strings_Join_none Tryz.Gu Tryz.jnX a 0 p1 w).mono λe w' ⟨he,hw⟩=>⟨he,hw▸RowKit.Below.refl _ _⟩
 ·rw[dO] at k3 k4;rw[wG] at k1 ⊢;have hc:∀(j:Nat) x,p0[j]?=some x->w.cell? ⟨B,o+j,none⟩=some (.string x):=λj x hx=>by
   have e:(p0.map V.str)[j]?=some (V.str x):=by grind
   have h2:=(k3 j _ e).2
   have h3:vs j=.string x:=Qy.QD (γ:=γ) (w:=w) (bs:=Qe []) (u:=Qk) (.data (k4 j _ e));rw[h3] at h2;exact h2
  by_cases h0:p0=[]
  ·subst h0;exact(Any.strings_Join_none Tryz.Gu Tryz.jnX _ cap p1 w).mono λe w' ⟨he,hw⟩=>⟨he,hw▸RowKit.Below.refl _ _⟩
  ·obtain⟨x,l,rfl⟩:=List.exists_cons_of_ne_nil h0;have hB:B < w.heap.size:=World.block_lt_of_cell? _ _ (hc 0 x rfl);refine Any.strings_Join Tryz.Gu Tryz.jnX B o cap (x :: l) p1 w hc hB h1.1 k1 ?_;grind [KU,ByteArray.size]
def Qxr(p0:List ze)(p1:ze):Sp ze:=⟨152,[Sl 1 Z6 p0,.str p1],[],(rG p0 p1).run,λr=>.str r,λ_=>[],[],λ_ _ h=>by simp at h,λr h=>Qio p0 p1 r h⟩
def Qj7(p0 p1:Int):TT (ze):=.cl 1003 (tR p0 p1) λr440=>.done r440.1
def NH(p0 p1:Int):Sp (ze):=oF [0,1,4,5] Tryz.func194 [.i p0,.i p1] (Qj7 p0 p1) (λr=>.str r)
def Qe2(p0:Z5):TT (ze×Int):=.cl 1002 (OB p0) λr439=>.br 0 (!r439) (.done (zg,180)) (.cl 3003 (NH 6 p0.fQ) λr441=>.Qf 3004 (decide ((bs [102,100,1]).size+r441.size<=9223372036854775807)) (.cl 3007 (NH 6 p0.fF) λr442=>.Qf 3008 (decide (((bs [102,100,1])++r441).size+r442.size<=9223372036854775807)) (.cl 3011 (NH 6 p0.fC) λr443=>.Qf 3012 (decide ((((bs [102,100,1])++r441)++r442).size+r443.size<=9223372036854775807)) (.cl 3016 (NH 1 (p0.ft.size:Int)) λr444=>.Qf 3017 (decide (((((bs [102,100,1])++r441)++r442)++r443).size+r444.size<=9223372036854775807)) (.Qf 3020 (decide ((((((bs [102,100,1])++r441)++r442)++r443)++r444).size+p0.ft.size<=9223372036854775807)) (.Qf 3023 (decide (((((((bs [102,100,1])++r441)++r442)++r443)++r444)++p0.ft).size+p0.fI.size<=9223372036854775807)) (.done ((((((((bs [102,100,1])++r441)++r442)++r443)++r444)++p0.ft)++p0.fI),0))))))))
def uM(p0:Z5):Sp (ze×Int):=oF [0,1,2,3,6] Tryz.func143 [.agg [.str p0.ft,.str p0.fI,.i p0.fF,.i p0.fC,.i p0.fQ]] (Qe2 p0) (λr=>.Qt [.str r.1,.i r.2])
noncomputable def qO:Code:=(cB (cR (cL (cR (cR (cR (cR (Tryz.f92.body.getD .skip))))))))
def iE:Code:=MR qO
def GA:List (Nat×V):=[(7,.ptr 1000007 0 0),(20,.fn 206 [] [.ptr 1700070 0 0])]
def PrL(y:(List ze))(s:ze):List (Nat×Qa):=[(1000007,⟨1,true,[[.ref 1900070 0 y.length]]⟩),(1700070,⟨1,true,[[.str s]]⟩)]
def GX(ts:List (Nat×V))(y:(List ze))(s:ze):Ext:=Ext.of .normal ts (PrL y s) [BT.of 1900070 Z6 1 y true] (by rfl)
def VL(y:(List ze))(s:ze)(v:Int):TT ((List ze)):=
 .Qf 6004 (decide (0<=(Qm (Int.tdiv v 16))/\(Qm (Int.tdiv v 16)) < ((bs [48,49,50,51,52,53,54,55,56,57,65,66,67,68,69,70]).size:Int))) (.Qf 6007 (decide (0<=(Int.tmod v 16)/\(Int.tmod v 16) < ((bs [48,49,50,51,52,53,54,55,56,57,65,66,67,68,69,70]).size:Int))) (.app 6011 Z6 y [(strOfNums [(QZ (bs [48,49,50,51,52,53,54,55,56,57,65,66,67,68,69,70]) (Qm (Int.tdiv v 16))),(QZ (bs [48,49,50,51,52,53,54,55,56,57,65,66,67,68,69,70]) (Int.tmod v 16))])] 16 false (by intro h;cases h) (.done (y++[(strOfNums [(QZ (bs [48,49,50,51,52,53,54,55,56,57,65,66,67,68,69,70]) (Qm (Int.tdiv v 16))),(QZ (bs [48,49,50,51,52,53,54,55,56,57,65,66,67,68,69,70]) (Int.tmod v 16))])]))))
theorem Qar(y:(List ze))(s:ze)(v:Int):Y0 Tryz.prog GG [7,8] 36 (I3 qO) (GX [(7,.ptr 1000007 0 0),(8,.int .u8 v)] y s) (VL y s v) (λ(r:(List ze))=>Ext.of .normal [] [(1000007,⟨1,true,[[.ref 32 0 r.length]]⟩),(1700070,⟨1,true,[[.str s]]⟩)] [BT.of 32 Z6 1 r true] (by rfl)):=by unfold Y0;kernel_rfl
def qL(y:(List ze))(s:ze):List (Nat×Qa):=(GX [] y s).bs
theorem Qan(y:(List ze))(s:ze)(v:Int):Y0 Tryz.prog GG [7,8,20,21] 36 iE (GX ((21,.int .u8 v) :: GA) y s) (.done ():TT Unit) (λ_=>GX [(7,.ptr 1000007 0 0),(8,.int .u8 v)] y s):=by unfold Y0;kernel_rfl
theorem Qom(y:(List ze))(s:ze)(v:Int):(GX ((21,.int .u8 v) :: GA) y s |>.D 36).st=Ki (E3 36 (Zm GA) (Qe (qL y s))) ([21].zip [.int .u8 v]):=by
 rw[H8 (by rfl)];exact(Uj 36 GA _ 21 (.int .u8 v)).symm
theorem Qwl(s:ze){r:(List ze)}{g:St}(h:QH GG g ((Ext.of .normal [] [(1000007,⟨1,true,[[.ref 32 0 r.length]]⟩),(1700070,⟨1,true,[[.str s]]⟩)] [BT.of 32 Z6 1 r true] (by rfl)).D 36).st):QH GG g (E3 36 (λ_=>.undef) (Qe (qL r s))):=
 QH.trans h (QH.mob (lits:=[(1000007,⟨1,true,[[.ref 32 0 r.length]]⟩),(1700070,⟨1,true,[[.str s]]⟩)]) (rest:=[]) (kd:=(BT.of 32 Z6 1 r true).k) (d:=32) (m:=1900070) (n:=36) (by decide) (by decide) (by decide) (by show ([1000007,1700070,32]:List Nat).Nodup;decide) (Ty.data _ _) (λp hp=>by cases hp) (by rfl) (by rfl))
theorem Qa4(y:(List ze))(s:ze)(v:Int){r:(List ze)}(hb:(VL y s v).run=some r) :
  JS Tryz.prog GG 36 (Zm GA) [21] iE (I3 qO) (Qe (qL y s)) [.int .u8 v] (λe b'=>e=.normal/\b'=Qe (qL r s)):=by
 refine⟨((GX [(7,.ptr 1000007 0 0),(8,.int .u8 v)] y s).D 36).st,?_,?_⟩
 ·have h:=(Qan y s v).tv Q9 (r:=()) rfl (by rfl);rw[Qom] at h;exact h
 ·refine((Qar y s v).tv Q9 hb (by rfl)).mono λe s' hg=>?_;obtain⟨rfl,g⟩:=hg;exact⟨_,36,⟨rfl,rfl⟩,Qwl s g⟩
section
variable (l:Nat) (y:(List ze)) (s:ze) (i:Int)
def iM:List (Nat×V):=[(0,.QB l),(1,.ptr 1700070 0 0),(3,.int .i64 i)]
def PrC:Ext:=GX (iM l i) y s
def PrD(r:Option Int):Ext:=match r with
 | some c=>GX (iM l i++[(8,.bool true),(9,.QB l),(12,.int .u8 c)]) y s
 | none=>GX (iM l i++[(8,.bool false)]) y s
theorem Qab:Y0 Tryz.prog GG [0,1,3] 17 (cL BD) (GX [(0,.QB l),(1,.ptr 1700070 0 0)] y s) (.done ():TT Unit) (λ_=>PrC l y s 0):=by unfold Y0;kernel_rfl
theorem Qas:K0 Tryz.prog GG [0,1,3,8,9,12] 17 1 pI 9 (PrC l y s i) (VN s i) (PrD l y s i):=by unfold K0;kernel_rfl
theorem Qap:Y0 Tryz.prog GG [0,1,3] 17 aR1 (PrC l y s i) (.done ():TT Unit) (λ_=>PrC l y s (Q0 (i+1))):=by unfold Y0;kernel_rfl
end
def KS(s:ze)(x:(List ze)×Int):Option (((List ze)×Int)⊕((List ze)⊕Unit)):=
 match (VN s x.2).run with
 | none=>none
 | some none=>some (.inr (.inl x.1))
 | some (some c)=>match (VL x.1 s c).run with
  | some y=>some (.inl (y,Q0 (x.2+1)))
  | none=>none
def mPr(y:(List ze))(s:ze):Option ((List ze)⊕Unit):=I0 (KS s) Ys (y,0)
def yPr:YL:=⟨36,Zm GA,#[21],iE,I3 qO⟩
def oPr(s:ze):((List ze)⊕Unit)->Exit->(zj)->Prop
 | .inl r,e,bw=>e=.normal/\bw=Qe (qL r s)
 | .inr _,e,bw=>e=.ret/\∃r,bw=Qe (qL r s)
theorem Qyw(y:(List ze))(s:ze){r:(List ze)⊕Unit}(h:mPr y s=some r) :
    UW Tryz.prog GG BD 17 (λl=>[.QB l,.ptr 1700070 0 0]) (Qe (qL y s)) yPr (oPr s r):=by
  refine UW.of λl=>?_;have e0:U3 17 [.QB l,.ptr 1700070 0 0] (Qe (qL y s))=((GX (U5 [.QB l,.ptr 1700070 0 0]) y s).D 17).st:=(B5 (x:=GX (U5 [.QB l,.ptr 1700070 0 0]) y s) (by rfl) (by rfl) 17).symm;rw[e0,eAl];show YT _ _ _ _ _ ⟨.normal,((GX [(0,.QB l),(1,.ptr 1700070 0 0)] y s).D 17).st⟩ _;refine YT.seq (YT.piece (Qab l y s) Q9 rfl (by rfl) λq g=>?_);show YT _ _ _ _ _ _ _;refine YT.XG g (YT.block ?_);refine YT.loop (λm st=>st.x=.normal/\∃z:(List ze)×Int,QH GG st.st ((PrC l z.1 s z.2).D 17).st/\I0 (KS s) m z=some r) (λm st hI=>?_) (n:=Ys) ⟨rfl,(y,0),QH.same _,h⟩;obtain⟨x,st⟩:=st;obtain⟨rfl,⟨v,i⟩,g,hit⟩:=hI;refine YT.XG g ?_;cases m with
  | zero=>simp[I0] at hit
  | succ m=>
    rw[ZU] at hit;rw[eAL];cases h4:(VN s i).run with
    | none => have hs0 : KS s (v, i) = none := by unfold KS; simp only [h4]
              rw[hs0] at hit;simp at hit
    | some c=>
    refine YT.seq (YT.seq (YT.region ?_));show J3 _ _ _ _ _ ([0,1,2,3,4,5,6,7,8]++[9,10]) _ _;refine J3.tv ((Qas l v s i).tv Q9 h4 (by cases c<;>rfl)) λe st hq'=>⟨by rw[hq'.1];cases c<;>rfl,J3.XG hq'.2 ?_⟩;cases c with
    | none=>
      have hs0:KS s (v,i)=some (.inr (.inl v)):=by unfold KS;simp only[h4]
      rw[hs0] at hit;obtain rfl:_=r:=wh hit;show J3 _ _ _ _ _ _ ⟨.normal,((GX (iM l i++[(8,.bool false)]) v s).D 17).st⟩ _;refine J3.step rfl (J3.step rfl (J3.nil ?_));show YT _ _ _ _ _ _ _;refine YT.cond (b:=false) rfl (YT.exit ?_);refine⟨.inl rfl,17,Zm (iM l i++[(8,V.bool false),(14,V.bool false)]),Qe (qL v s),?_,rfl,rfl⟩;rw[show E3 17 (Zm (iM l i++[(8,V.bool false),(14,V.bool false)])) (Qe (qL v s))=((GX (iM l i++[(8,V.bool false),(14,V.bool false)]) v s).D 17).st from(H8 (x:=GX (iM l i++[(8,V.bool false),(14,V.bool false)]) v s) (by rfl) 17).symm];exact W3 (GX (iM l i++[(8,V.bool false),(14,V.bool false)]) v s) (by rfl) rfl ⟨by rfl,by rfl⟩
    | some c=>
      show J3 _ _ _ _ _ _ ⟨.normal,((GX (iM l i++[(8,.bool true),(9,.QB l),(12,.int .u8 c)]) v s).D 17).st⟩ _
      have es:=H8 (x:=GX (iM l i++[(8,V.bool true),(9,V.QB l),(12,V.int .u8 c)]) v s) (by rfl) 17;rw[es];cases h5:(VL v s c).run with
      | some v2=>
        have hs0:KS s (v,i)=some (.inl (v2,Q0 (i+1))):=by unfold KS;simp only[h4,h5]
        rw[hs0] at hit;refine J3.KO (hi:=rfl) rfl rfl rfl rfl rfl rfl rfl (λi=>L6 (by rfl) i) (λi=>L6 (by rfl) i) (λp hp=>?_) rfl (Qa4 v s c h5) (λe b' h=>.inl h.1) λe b' h=>?_
        · have:p∈[21]:=hp
          simp at this;subst this;exact(by decide:21 < 36)
        obtain⟨rfl,rfl⟩:=h;refine J3.step rfl (J3.nil ?_);show YT _ _ _ _ _ _ _;refine YT.cond (b:=true) rfl (YT.skip ?_);show YT _ _ _ _ _ _ _;refine YT.seq (YT.block (YT.skip ?_));show YT _ _ _ _ _ _ _;refine YT.XG (st':=((PrC l v2 s i).D 17).st) (W3 (PrC l v2 s i) (by rfl) rfl ⟨by rfl,by rfl⟩) ?_;refine YT.piece (Qap l v2 s i) Q9 rfl (by rfl) λq g=>?_;exact⟨m,Nat.lt_succ_self m,rfl,(v2,Q0 (i+1)),g,hit⟩
      | none=>
        have hs0:KS s (v,i)=none:=by unfold KS;simp only[h4,h5]
        rw[hs0] at hit;simp at hit
def LM(y:(List ze))(s:ze):Ext:=Ext.of .normal [(7,.ptr 7 0 0),(20,.fn 206 [] [.ptr 700070 0 0])] [(7,⟨1,true,[[.ref 900070 0 y.length]]⟩),(700070,⟨1,true,[[.str s]]⟩)] [BT.of 900070 Z6 1 y true] (by rfl)
def PrE:((List ze)⊕Unit)->Ext
 | .inl r=>Ext.of .normal [(7,.ptr 7 0 0)] [(7,⟨1,true,[[.ref 900070 0 r.length]]⟩)] [BT.of 900070 Z6 1 r true] (by rfl)
 | .inr _=>Ext.of .ret [] [] [] (by rfl)
theorem bPr(y:(List ze))(s:ze):QY (Qe (LM y s).bs)=Qe (qL y s):=by
 rw[UI];have:((LM y s).bs.map λp=>(sh p.1,p.2.Qb sh))=qL y s:=by(simp only[LM,Ext.of,List.cons_append,List.nil_append,wu,List.map_nil,BT.of,Qa.Qb,Ce]);kernel_rfl
 rw[this]
theorem Qy6(y:(List ze))(s:ze){r:(List ze)⊕Unit}(h:mPr y s=some r) :
  TV Tryz.prog GG (.rangeFunc (.tmp 20) #[21] iE (I3 qO)) ((LM y s).D 36).st (λe st=>e=(PrE r).ex/\QH GG st ((PrE r).D 36).st):=by
 have ht:(λi=>W0 sh (((LM y s).D 36).st.t i))=Zm GA:=by
  have:((LM y s).D 36).st.t=Zm (LM y s).ts:=rfl;rw[this,V9]
  have:((LM y s).ts.map λp=>(p.1,W0 sh p.2))=GA:=by kernel_rfl
  rw[this]
 have hb:Tryz.f206.body=some BD:=by kernel_rfl
 refine TV.AK (f:=206) (fi:=Tryz.f206) (c:=BD) (first:=[]) (caps:=[.ptr 1700070 0 0]) (R:=λe bw=>oPr s r e bw) ?_ Tryz.func206 hb (by kernel_rfl) (by kernel_rfl) ?_ (λi=>?_) ?_ ?_
 ·show some ((λi=>W0 sh (((LM y s).D 36).st.t i)) 20)=_;rw[ht];rfl
 ·intro bq k hk;obtain⟨q,h1,rfl,_⟩:=Yn (show Qe (LM y s).bs bq=some k from hk);show ((((LM y s).us).contains q.1 || Qk q.1))=true;simp only[Ext.us,zY,wj,zI];exact .inl (zM.2 ⟨q,h1,rfl⟩)
 ·have:=congrFun ht i;rw[show W0 sh (((LM y s).D 36).st.t i)=Zm GA i from this];exact L6 (by rfl) i
 ·have hbb:QY ((LM y s).D 36).st.b=Qe (qL y s):=bPr y s;rw[ht,hbb]
  have e:max Tryz.f206.ntmps (([]:List V).length+1+[V.ptr 1700070 0 0].length)=17:=by kernel_rfl
  rw[e];exact Qyw y s h
 ·intro e b' ho;rcases r with r|r
  ·obtain⟨rfl,rfl⟩:=ho;exact⟨.inl rfl,Qe (LM r s).bs,(bPr r s).symm,Ll (ts:=(LM y s).ts) (bs:=[(7,⟨1,true,[[.ref 900070 0 r.length]]⟩),(700070,⟨1,true,[[.str s]]⟩)]) (tb:=[BT.of 900070 Z6 1 r true]) (us:=(LM y s).us) (by rfl) (by rfl) (by rfl),rfl,W3 (PrE (.inl r)) (by rfl) rfl ⟨by rfl,by rfl⟩⟩
  ·obtain⟨rfl,r,rfl⟩:=ho;exact⟨.inr (.inl rfl),Qe (LM r s).bs,(bPr r s).symm,Ll (ts:=(LM y s).ts) (bs:=[(7,⟨1,true,[[.ref 900070 0 r.length]]⟩),(700070,⟨1,true,[[.str s]]⟩)]) (tb:=[BT.of 900070 Z6 1 r true]) (us:=(LM y s).us) (by rfl) (by rfl) (by rfl),rfl,W3 (PrE (.inr ())) (by rfl) rfl ⟨by rfl,by rfl⟩⟩
def Qhk(y:(List ze))(s:ze):Sub Tryz.prog GG ((List ze)):=
 ⟨.rangeFunc (.tmp 20) #[21] iE (I3 qO),36,LM y s,(match mPr y s with|some (.inl r)=>some r|_=>none),λr=>PrE (.inl r),λr h=>Qy6 y s (r:=.inl r) (by
  cases hm:mPr y s with
  | none=>rw[hm] at h;cases h
  | some x=>
   rw[hm] at h;cases x with
   | inl x=>obtain rfl:=wh h;rfl
   | inr x=>cases h)⟩
def bJ(p0:Z5):TT (ze):=.cl 1002 (uM p0) λr445=>.cl 2002 (s95 r445.1) λr446=>.call 4002 (Qq0 r446.1) [] [(1,500013)] λr447=>.gh 1 (.Qb 500013 700070) (.gh 1 (.Kb 900070 7 0 1) (.sub (Qhk [] r446.1) λr448=>.view 7002 (Qxr r448 (bs [58])) [(Zs.o 900070 Z6 r448)] λr449=>.Qf 7003 (decide ((bs [115,104,97,45,50,53,54,32]).size+r449.size<=9223372036854775807)) (.done ((bs [115,104,97,45,50,53,54,32])++r449))))
def Cx(p0:Z5):Sp (ze):=oF [0,1,2,3,5,7,8,20,21] Tryz.func92 [.agg [.str p0.ft,.str p0.fI,.i p0.fF,.i p0.fC,.i p0.fQ]] (bJ p0) (λr=>.str r)
structure J6 where
 fh:Z5
 GR:J9
noncomputable def bF:Code:=Tryz.f46.body.getD .skip
def Qo6(s:ze):TT (Unit):=
 .done ()
def yE(s:ze):Ext:=Ext.of .normal [(0,.str s)] [] [] (by rfl)
def Nq(s:ze):(Unit)->Ext:=λ(r:Unit)=>Ext.of .normal [(0,.str s),(2,.ptr 2 0 0),(3,.ptr 3 0 0)] [(2,⟨5,true,[[.str zg,.str zg,.i 0,.i 0,.i 0]]⟩),(3,⟨1,true,[[.i 0]]⟩)] [] (by rfl)
theorem Qi9(s:ze):Y0 Tryz.prog GG [0,2,3] 52 (cL bF) (yE s) (Qo6 s) (Nq s):=by unfold Y0;kernel_rfl
def Qj5(p0:Int):TT ((Unit)⊕(Unit)):=.br 0 (p0 != 0) (.Qz 1002 (Qw.Zw 207 (.tmp 4) 5 (.agg []) (.agg #[]) rfl (by kernel_rfl)) λ_=>.Hn 1003 (.done (.inr ()))) (.done (.inl ()))
theorem Qim(p0:Int):Hi Tryz.prog GG [0,3] Tryz.f197 [.i p0] (Ext.of .normal (U5 [.i p0]) [] [] (by rfl)) (Qj5 p0) (λ(_:Unit)=>.Qt []) (λ(r:Unit)=>Ext.of .normal [] [] [] (by rfl)) (λ(r:Unit)=>K2 (.iface 207 (.agg #[]))) (λ(r:Unit)=>Ext.of .normal [] [] [] (by rfl)):=by unfold Hi;kernel_rfl
def vU(p0:Int):L5 Pg GG (Unit) (Unit):=.ofFn 197 [] Q9 Tryz.func197 rfl (λ_=>rfl) (λ_=>rfl) (Qim p0)
def Qjk(p0:Int)(p1:J6):TT ((ze×Int×ze)⊕(Unit)):=.cl 1006 (uU p1.GR p0) λr450=>.Qi 2002 (vU r450.2.2) [] [] (λr451=>.done (.inl (r450.2.1.fS,r450.2.1.fE,r450.1))) (λr452=>.done (.inr ()))
theorem Qif(p0:Int)(p1:J6):Hi Tryz.prog GG [0,1,4,5,6,7] Tryz.f147 [.ptr 1000000 0 0,.i p0] (Ext.of .normal (U5 [.ptr 1000000 0 0,.i p0]) [(1000000,⟨7,true,[[.str p1.fh.ft,.str p1.fh.fI,.i p1.fh.fF,.i p1.fh.fC,.i p1.fh.fQ,.str p1.GR.fS,.i p1.GR.fE]]⟩)] [] (by rfl)) (Qjk p0 p1) (λ(r:ze×Int×ze)=>.str r.2.2) (λ(r:ze×Int×ze)=>Ext.of .normal [] [(1000000,⟨7,true,[[.str p1.fh.ft,.str p1.fh.fI,.i p1.fh.fF,.i p1.fh.fC,.i p1.fh.fQ,.str r.1,.i r.2.1]]⟩)] [] (by rfl)) (λ(r:Unit)=>K2 (.iface 207 (.agg #[]))) (λ(r:Unit)=>Ext.of .normal [] [] [] (by rfl)):=by unfold Hi;kernel_rfl
def uK(p0:Int)(p1:J6):L5 Pg GG (ze×Int×ze) (Unit):=.ofFn 147 [] Q9 Tryz.func147 rfl (λ_=>rfl) (λ_=>rfl) (Qif p0 p1)
def g85(p0:J6):TT ((ze×Int)⊕(Unit)):=.Qi 2 (uK 3 p0) [(zE,zE)] [] (λr453=>.br 0 (!decide (r453.2.2=(bs [102,100,1]))) (.Qz 1002 (Qw.Zw 207 (.tmp 5) 6 (.agg []) (.agg #[]) rfl (by kernel_rfl)) λ_=>.Hn 1003 (.done (.inr ()))) (.done (.inl (r453.1,r453.2.1)))) (λr454=>.done (.inr ()))
theorem k85(p0:J6):Hi Tryz.prog GG [0,4] Tryz.f85 [.ptr 1000000 0 0] (Ext.of .normal (U5 [.ptr 1000000 0 0]) [(1000000,⟨7,true,[[.str p0.fh.ft,.str p0.fh.fI,.i p0.fh.fF,.i p0.fh.fC,.i p0.fh.fQ,.str p0.GR.fS,.i p0.GR.fE]]⟩)] [] (by rfl)) (g85 p0) (λ(r:ze×Int)=>.Qt []) (λ(r:ze×Int)=>Ext.of .normal [] [(1000000,⟨7,true,[[.str p0.fh.ft,.str p0.fh.fI,.i p0.fh.fF,.i p0.fh.fC,.i p0.fh.fQ,.str r.1,.i r.2]]⟩)] [] (by rfl)) (λ(r:Unit)=>K2 (.iface 207 (.agg #[]))) (λ(r:Unit)=>Ext.of .normal [] [] [] (by rfl)):=by unfold Hi;kernel_rfl
def s85(p0:J6):L5 Pg GG (ze×Int) (Unit):=.ofFn 85 [] Q9 Tryz.func85 rfl (λ_=>rfl) (λ_=>rfl) (k85 p0)
def Qjw(p0:Int)(p1:J6):TT ((ze×Int×Int)⊕(Unit)):=.cl 1006 (uJ p1.GR p0) λr451=>.Qi 2002 (vU r451.2.2) [] [] (λr452=>.done (.inl (r451.2.1.fS,r451.2.1.fE,r451.1))) (λr453=>.done (.inr ()))
theorem Qil(p0:Int)(p1:J6):Hi Tryz.prog GG [0,1,4,5,6,7] Tryz.f148 [.ptr 1000000 0 0,.i p0] (Ext.of .normal (U5 [.ptr 1000000 0 0,.i p0]) [(1000000,⟨7,true,[[.str p1.fh.ft,.str p1.fh.fI,.i p1.fh.fF,.i p1.fh.fC,.i p1.fh.fQ,.str p1.GR.fS,.i p1.GR.fE]]⟩)] [] (by rfl)) (Qjw p0 p1) (λ(r:ze×Int×Int)=>.int .i64 r.2.2) (λ(r:ze×Int×Int)=>Ext.of .normal [] [(1000000,⟨7,true,[[.str p1.fh.ft,.str p1.fh.fI,.i p1.fh.fF,.i p1.fh.fC,.i p1.fh.fQ,.str r.1,.i r.2.1]]⟩)] [] (by rfl)) (λ(r:Unit)=>K2 (.iface 207 (.agg #[]))) (λ(r:Unit)=>Ext.of .normal [] [] [] (by rfl)):=by unfold Hi;kernel_rfl
def Vq(p0:Int)(p1:J6):L5 Pg GG (ze×Int×Int) (Unit):=.ofFn 148 [] Q9 Tryz.func148 rfl (λ_=>rfl) (λ_=>rfl) (Qil p0 p1)
def g86(p0:J6):TT ((Int×ze×Int)⊕(Unit)):=.Qi 3 (Vq 6 p0) [(zE,zE)] [] (λr454=>.done (.inl (r454.2.2,r454.1,r454.2.1))) (λr455=>.done (.inr ()))
theorem k86(p0:J6):Hi Tryz.prog GG [0] Tryz.f86 [.ptr 1000000 0 0] (Ext.of .normal (U5 [.ptr 1000000 0 0]) [(1000000,⟨7,true,[[.str p0.fh.ft,.str p0.fh.fI,.i p0.fh.fF,.i p0.fh.fC,.i p0.fh.fQ,.str p0.GR.fS,.i p0.GR.fE]]⟩)] [] (by rfl)) (g86 p0) (λ(r:Int×ze×Int)=>.Qt []) (λ(r:Int×ze×Int)=>Ext.of .normal [] [(1000000,⟨7,true,[[.str p0.fh.ft,.str p0.fh.fI,.i p0.fh.fF,.i p0.fh.fC,.i r.1,.str r.2.1,.i r.2.2]]⟩)] [] (by rfl)) (λ(r:Unit)=>K2 (.iface 207 (.agg #[]))) (λ(r:Unit)=>Ext.of .normal [] [] [] (by rfl)):=by unfold Hi;kernel_rfl
def s86(p0:J6):L5 Pg GG (Int×ze×Int) (Unit):=.ofFn 86 [] Q9 Tryz.func86 rfl (λ_=>rfl) (λ_=>rfl) (k86 p0)
def g87(p0:J6):TT ((Int×ze×Int)⊕(Unit)):=.Qi 3 (Vq 6 p0) [(zE,zE)] [] (λr452=>.done (.inl (r452.2.2,r452.1,r452.2.1))) (λr453=>.done (.inr ()))
theorem k87(p0:J6):Hi Tryz.prog GG [0] Tryz.f87 [.ptr 1000000 0 0] (Ext.of .normal (U5 [.ptr 1000000 0 0]) [(1000000,⟨7,true,[[.str p0.fh.ft,.str p0.fh.fI,.i p0.fh.fF,.i p0.fh.fC,.i p0.fh.fQ,.str p0.GR.fS,.i p0.GR.fE]]⟩)] [] (by rfl)) (g87 p0) (λ(r:Int×ze×Int)=>.Qt []) (λ(r:Int×ze×Int)=>Ext.of .normal [] [(1000000,⟨7,true,[[.str p0.fh.ft,.str p0.fh.fI,.i r.1,.i p0.fh.fC,.i p0.fh.fQ,.str r.2.1,.i r.2.2]]⟩)] [] (by rfl)) (λ(r:Unit)=>K2 (.iface 207 (.agg #[]))) (λ(r:Unit)=>Ext.of .normal [] [] [] (by rfl)):=by unfold Hi;kernel_rfl
def s87(p0:J6):L5 Pg GG (Int×ze×Int) (Unit):=.ofFn 87 [] Q9 Tryz.func87 rfl (λ_=>rfl) (λ_=>rfl) (k87 p0)
def g88(p0:J6):TT ((Int×ze×Int)⊕(Unit)):=.Qi 3 (Vq 6 p0) [(zE,zE)] [] (λr453=>.done (.inl (r453.2.2,r453.1,r453.2.1))) (λr454=>.done (.inr ()))
theorem k88(p0:J6):Hi Tryz.prog GG [0] Tryz.f88 [.ptr 1000000 0 0] (Ext.of .normal (U5 [.ptr 1000000 0 0]) [(1000000,⟨7,true,[[.str p0.fh.ft,.str p0.fh.fI,.i p0.fh.fF,.i p0.fh.fC,.i p0.fh.fQ,.str p0.GR.fS,.i p0.GR.fE]]⟩)] [] (by rfl)) (g88 p0) (λ(r:Int×ze×Int)=>.Qt []) (λ(r:Int×ze×Int)=>Ext.of .normal [] [(1000000,⟨7,true,[[.str p0.fh.ft,.str p0.fh.fI,.i p0.fh.fF,.i r.1,.i p0.fh.fQ,.str r.2.1,.i r.2.2]]⟩)] [] (by rfl)) (λ(r:Unit)=>K2 (.iface 207 (.agg #[]))) (λ(r:Unit)=>Ext.of .normal [] [] [] (by rfl)):=by unfold Hi;kernel_rfl
def s88(p0:J6):L5 Pg GG (Int×ze×Int) (Unit):=.ofFn 88 [] Q9 Tryz.func88 rfl (λ_=>rfl) (λ_=>rfl) (k88 p0)
def g89(p0:J6):TT ((ze×ze×Int)⊕(Unit)):=.Qi 4 (Vq 1 p0) [(zE,zE)] [] (λr454=>.Qi 5 (uK r454.2.2 (J6.mk p0.fh (J9.mk r454.1 r454.2.1))) [(zE,zE)] [] (λr455=>.done (.inl (r455.2.2,r455.1,r455.2.1))) (λr456=>.done (.inr ()))) (λr457=>.done (.inr ()))
theorem k89(p0:J6):Hi Tryz.prog GG [0] Tryz.f89 [.ptr 1000000 0 0] (Ext.of .normal (U5 [.ptr 1000000 0 0]) [(1000000,⟨7,true,[[.str p0.fh.ft,.str p0.fh.fI,.i p0.fh.fF,.i p0.fh.fC,.i p0.fh.fQ,.str p0.GR.fS,.i p0.GR.fE]]⟩)] [] (by rfl)) (g89 p0) (λ(r:ze×ze×Int)=>.Qt []) (λ(r:ze×ze×Int)=>Ext.of .normal [] [(1000000,⟨7,true,[[.str r.1,.str p0.fh.fI,.i p0.fh.fF,.i p0.fh.fC,.i p0.fh.fQ,.str r.2.1,.i r.2.2]]⟩)] [] (by rfl)) (λ(r:Unit)=>K2 (.iface 207 (.agg #[]))) (λ(r:Unit)=>Ext.of .normal [] [] [] (by rfl)):=by unfold Hi;kernel_rfl
def s89(p0:J6):L5 Pg GG (ze×ze×Int) (Unit):=.ofFn 89 [] Q9 Tryz.func89 rfl (λ_=>rfl) (λ_=>rfl) (k89 p0)
def g90(p0:J6):TT ((ze×ze×Int)⊕(Unit)):=.Qi 3 (uK 32 p0) [(zE,zE)] [] (λr455=>.done (.inl (r455.2.2,r455.1,r455.2.1))) (λr456=>.done (.inr ()))
theorem k90(p0:J6):Hi Tryz.prog GG [0] Tryz.f90 [.ptr 1000000 0 0] (Ext.of .normal (U5 [.ptr 1000000 0 0]) [(1000000,⟨7,true,[[.str p0.fh.ft,.str p0.fh.fI,.i p0.fh.fF,.i p0.fh.fC,.i p0.fh.fQ,.str p0.GR.fS,.i p0.GR.fE]]⟩)] [] (by rfl)) (g90 p0) (λ(r:ze×ze×Int)=>.Qt []) (λ(r:ze×ze×Int)=>Ext.of .normal [] [(1000000,⟨7,true,[[.str p0.fh.ft,.str r.1,.i p0.fh.fF,.i p0.fh.fC,.i p0.fh.fQ,.str r.2.1,.i r.2.2]]⟩)] [] (by rfl)) (λ(r:Unit)=>K2 (.iface 207 (.agg #[]))) (λ(r:Unit)=>Ext.of .normal [] [] [] (by rfl)):=by unfold Hi;kernel_rfl
def s90(p0:J6):L5 Pg GG (ze×ze×Int) (Unit):=.ofFn 90 [] Q9 Tryz.func90 rfl (λ_=>rfl) (λ_=>rfl) (k90 p0)
def Xs(s:ze):TT ((ze×ze×Int×Int×Int×Int)⊕(Unit)):=
 .tt (.Qi 6002 (s85 (J6.mk (Z5.mk zg zg 0 0 0) (J9.mk s 0))) [(1000000,11)] [] (λr450=>
  .tt (.Qi 6002 (s86 (J6.mk (Z5.mk zg zg 0 0 0) (J9.mk r450.1 r450.2))) [(1000000,11)] [] (λr451=>
   .tt (.Qi 6002 (s87 (J6.mk (Z5.mk zg zg 0 0 r451.1) (J9.mk r451.2.1 r451.2.2))) [(1000000,11)] [] (λr452=>
    .tt (.Qi 6002 (s88 (J6.mk (Z5.mk zg zg r452.1 0 r451.1) (J9.mk r452.2.1 r452.2.2))) [(1000000,11)] [] (λr453=>
     .tt (.Qi 6002 (s89 (J6.mk (Z5.mk zg zg r452.1 r453.1 r451.1) (J9.mk r453.2.1 r453.2.2))) [(1000000,11)] [] (λr454=>
      .tt (.Qi 6002 (s90 (J6.mk (Z5.mk r454.1 zg r452.1 r453.1 r451.1) (J9.mk r454.2.1 r454.2.2))) [(1000000,11)] [] (λr455=>
       .ff (.QV 8 [46]
       (.br 8010 (r455.2.2 != (s.size:Int))
        (.done true)
        (.cl 8014 (OB (Z5.mk r454.1 r455.1 r452.1 r453.1 r451.1)) λr456=>
         .done (!r456)))
       zm λc457=>
       .br 0 c457
       (.done (.inl (zg,zg,0,0,0,5)))
       (.done (.inl (r454.1,r455.1,r452.1,r453.1,r451.1,0)))))
      (λr458=>
       .done (.inr ()))))
     (λr459=>
      .done (.inr ()))))
    (λr460=>
     .done (.inr ()))))
   (λr461=>
    .done (.inr ()))))
  (λr462=>
   .done (.inr ()))))
 (λr463=>
  .done (.inr ())))
def yM(s:ze):Ext:=Ext.of .normal [(0,.str s),(2,.ptr 1000002 0 0),(3,.ptr 1000003 0 0),(7,.fn 84 [] [.ptr 1000002 0 0,.ptr 1000003 0 0])] [(1000002,⟨5,true,[[.str zg,.str zg,.i 0,.i 0,.i 0]]⟩),(1000003,⟨1,true,[[.i 0]]⟩)] [] (by rfl)
def PE(s:ze)(r:ze×ze×Int×Int×Int×Int):Ext:=Ext.of .ret [(2,.ptr 1000002 0 0),(3,.ptr 1000003 0 0)] [(1000002,⟨5,true,[[.str r.1,.str r.2.1,.i r.2.2.1,.i r.2.2.2.1,.i r.q.1]]⟩),(1000003,⟨1,true,[[.i r.q.2]]⟩)] [] (by rfl)
def PM(s:ze)(r:Unit):Ext:=Ext.of (.panic (K2 (.iface 207 (.agg #[])))) [(2,.ptr 1000002 0 0),(3,.ptr 1000003 0 0)] [(1000002,⟨5,true,[[.str zg,.str zg,.i 0,.i 0,.i 0]]⟩),(1000003,⟨1,true,[[.i 0]]⟩)] [] (by rfl)
theorem Qi8(s:ze):Y0 Tryz.prog GG [0,2,3,4,6,7,24,25,26,46] 52 (cR (cR bF)) (yM s) (Xs s) (Sum.elim (PE s) (PM s)):=by unfold Y0;kernel_rfl
def bR:Array Oper:=Oo (cL (cR bF))
def Pj:Oper:=(bR[0]?).get (by kernel_rfl)
def aK:Oper:=(bR[1]?).get (by kernel_rfl)
theorem eBd:Tryz.f46.body=some ([cL bF].foldr Code.seq (.seq (.region 1 #[Pj,aK] false) (cR (cR bF)))):=by kernel_rfl
noncomputable def cBc:Code:=Tryz.f84.body.getD .skip
def bB:Array Oper:=Oo (cL cBc)
def Qoo:Oper:=(bB[0]?).get (by kernel_rfl)
def Qoi:Oper:=(bB[1]?).get (by kernel_rfl)
theorem eBc:Tryz.f84.body=some (.seq (.region 0 #[Qoo,Qoi] false) (cR cBc)):=by kernel_rfl
def aY:Value:=.iface 207 (.agg #[])
abbrev BS:=ze×ze×Int×Int×Int×Int
def zBd:BS:=(zg,zg,0,0,0,0)
def UU(r:BS):List (Nat×Qa):=[(1000002,⟨5,true,[[.str r.1,.str r.2.1,.int .i64 r.2.2.1,.int .i64 r.2.2.2.1,.int .i64 r.q.1]]⟩),(1000003,⟨1,true,[[.int .i64 r.q.2]]⟩)]
def WY:List V:=[.ptr 1000002 0 0,.ptr 1000003 0 0]
def oE(v:Value)(h:Wo v=true)(r:BS):Ext:=Ext.of .normal [(0,.ptr 1000002 0 0),(1,.ptr 1000003 0 0),(2,.Zw v),(3,.Zw v)] (UU r) [] (by rfl)
def Qo8:TT Unit:=.Qz 1002 (Qw.Qzt (ms:=#[]) 20 20 (.tmp 4) 5 (by kernel_rfl)) λ_=>.ff (.done ())
theorem Qiz(r:BS):Y0 Tryz.prog GG [0,1,2,3,5] 7 (cR cBc) (oE .nilIface rfl r) Qo8 (λ_=>Ext.of .normal [] (UU r) [] (by rfl)):=by unfold Y0;kernel_rfl
def Qo7:TT Unit:=.Qz 1002 (Qw.nI 20 20 (.tmp 4) 5 207 (.agg #[]) (by kernel_rfl)) λ_=>.tt (.done ())
theorem Qiq(r:BS):Y0 Tryz.prog GG [0,1,2,3,5] 7 (cR cBc) (oE aY rfl r) Qo7 (λ_=>Ext.of .normal [] (UU (zg,zg,0,0,0,5)) [] (by rfl)):=by unfold Y0;kernel_rfl
theorem Pu(r:BS):∀b k,Qe (UU r) b=some k->X8 b=true:=λb k h=>by
 obtain⟨p,h1,rfl,_⟩:=Yn h;simp only[UU,zR,zZ,or_false] at h1;rcases h1 with rfl|rfl
 ·grind [X8]
 grind [X8]
theorem bdD{u u':FrameMode}{rv:Value}{r r':BS}{x x':Ext}{kp:List Nat}{g:TT Unit}(hi:Wo rv=true)(hr:WK u rv u')(k:Y0 Tryz.prog GG kp 7 (cR cBc) x g (λ_=>x'))(hg:g.run=some ())(hok:x'.ok=true)(hex:x'.ex=.normal)
  (h0:QH GG (((U3 7 WY (Qe (UU r))).put (some 3) (.Zw rv)).put (some 2) (.Zw rv)) (x.D 7).st) (hb:x'.bs=UU r') :
  LX Tryz.prog GG 84 WY (Qe (UU r)) u u' (Qe (UU r')):=by
 refine BM (n:=7) (t1:=3) (t2:=2) (rv:=rv) Tryz.func84 eBc (by kernel_rfl) (by kernel_rfl) (by kernel_rfl) (by kernel_rfl) (by kernel_rfl) (by kernel_rfl) (by kernel_rfl) (by decide) (by decide) hi hr (by kernel_rfl) ?_;have h:=k.tv Q9 (r:=()) hg hok;exact(TV.ghost h0 h).mono λe s hq=>⟨.inl (hq.1.trans hex),_,hq.2,λb k hk=>by rw[<-hb] at hk;exact hk⟩
theorem Qdw(r:BS):LX Tryz.prog GG 84 WY (Qe (UU r)) .returning .returning (Qe (UU r)):=
 bdD rfl (.inl ⟨rfl,rfl,rfl⟩) (Qiz r) rfl (by rfl) rfl (W3 (oE .nilIface rfl r) (by rfl) rfl ⟨by rfl,by rfl⟩) rfl
theorem Qdk(r:BS):LX Tryz.prog GG 84 WY (Qe (UU r)) (.panicking (K2 aY)) (.panicking [{ v:=aY,recovered:=true }]) (Qe (UU (zg,zg,0,0,0,5))):=
 bdD rfl (.inr ⟨aY,[],rfl,rfl,rfl⟩) (Qiq r) rfl (by rfl) rfl (W3 (oE aY rfl r) (by rfl) rfl ⟨by rfl,by rfl⟩) rfl
def bdV(r:BS):V:=.Qt [.agg [.str r.1,.str r.2.1,.int .i64 r.2.2.1,.int .i64 r.2.2.2.1,.int .i64 r.q.1],.int .i64 r.q.2]
def HM(s:ze):Ext:=Ext.of .normal [(0,.str s),(2,.ptr 1000002 0 0),(3,.ptr 1000003 0 0)] (UU zBd) [] (by rfl)
def aE:V:=.fn 84 [] WY
theorem Qdu{x:Ext}(h:x.us=[1000002,1000003]):(x.D 52).st.u=Qk:=funext λb=>by
 show (x.us.contains b || Qk b)=Qk b;rw[h];by_cases h1:b=1000002
 ·subst h1;rfl
 ·by_cases h2:b=1000003
  ·subst h2;rfl
  grind
theorem aM(s:ze){q:BS⊕Unit}{x:Ext}{u u':FrameMode}{r r':BS}(hx:Sum.elim (PE s) (PM s) q=x)(h2:(Xs s).run=some q)(hok:x.ok=true)(hl:Go.EV.Left u x.ex)(hbs:(x.D 52).st.b=Qe (UU r))(hus:x.us=[1000002,1000003])
  (hD:LX Tryz.prog GG 84 WY (Qe (UU r)) u u' (Qe (UU r'))) (hu:settle u'=.returning)
  (hres:F3 Tryz.prog ⟨52,(x.D 52).st.t,Qe (UU r'),λ_=>true⟩ Tryz.f46.results.toList=some (bdV r')) :
  QS Tryz.prog GG 46 [.str s] (Qe []) (bdV r') (Qe []):=by
 subst hx;have e0:U3 52 [.str s] (Qe [])=((yE s).D 52).st:=(B5 (x:=yE s) (by rfl) (by rfl) 52).symm;have t0:=(Qi9 s).tv Q9 (r:=()) rfl (by rfl);have t2:=(Qi8 s).tv Q9 h2 hok;have hnoB:(Qe []:zj)=Ot:=rfl;rw[hnoB] at e0 ⊢;have hsh:QH GG ((Nq s ()).D 52).st.shift ((HM s).D 52).st:=by
  have eT:((Nq s ()).ts.map λp=>(p.1,W0 sh p.2))=(HM s).ts:=by kernel_rfl
  have eB:((Nq s ()).bs.map λp=>(sh p.1,p.2.Qb sh))=(HM s).bs:=by kernel_rfl
  rw[Ur,eT,eB];exact W3 (HM s) (by rfl) rfl ⟨by rfl,by rfl⟩
 have st5:B7 Tryz.prog GG #[Pj,aK] 0 ((HM s).D 52).st (((HM s).D 52).st.put (some 7) aE):=Zt (by rfl)
 have g0:M9 #[Pj,aK] ((HM s).D 52).st Pj=some true:=by rfl
 have h0:I9 Tryz.prog GG Pj ((HM s).D 52).st (((HM s).D 52).st.put (some 7) aE):=by
  unfold B7 at st5;simp only[show (#[Pj,aK]:Array Oper)[0]?=some Pj from rfl] at st5;rcases st5 with⟨_,h⟩|⟨h,_⟩
  ·exact h
  ·rw[g0] at h;simp at h
 have gB:QH GG (((HM s).D 52).st.put (some 7) aE) ((yM s).D 52).st:=W3 (yM s) (by rfl) rfl ⟨by rfl,by rfl⟩;refine RT (As:=[cL bF]) (rest:=cR (cR bF)) (rid:=1) (t:=7) (n:=52) (o0:=Pj) (o1:=aK) (caps:=WY) (insD:=Qe (UU r)) (outsD:=Qe (UU r')) (S0:=((Nq s ()).D 52).st) (S1:=((HM s).D 52).st) (S2:=((Sum.elim (PE s) (PM s) q).D 52).st) (u:=u) (u':=u')
  Tryz.func46 eBd (by kernel_rfl) ?_ hsh h0 g0 (by kernel_rfl) (by kernel_rfl) (by rfl) (TV.ghost gB t2) hl (λc hc=>?_) (show 7 < 52 by decide) ⟨hbs,Qdu hus⟩ ⟨Pu r,Pu r'⟩ Tryz.func84 (by kernel_rfl) (by kernel_rfl) hD hu hres
  λγ w v h=>Qy.IW (γ:=γ) (γ':=γ.Qo) (λB o v h1 h2=>⟨h1,h2⟩) h (by rfl)
 ·rw[e0];show TV _ _ (cL bF) _ _;exact t0
 ·simp only[WY,zR,zZ,or_false] at hc;rcases hc with rfl|rfl
  ·exact⟨1000002,_,rfl,by decide,rfl⟩
  ·exact⟨1000003,_,rfl,by decide,rfl⟩
def bS(s:ze):Option BS:=match (Xs s).run with
 | some (.inl r)=>some r
 | some (.inr _)=>some (zg,zg,0,0,0,5)
 | none=>none
theorem Qdh(s:ze){r:BS}(h:bS s=some r):QS Tryz.prog GG 46 [.str s] (Qe []) (bdV r) (Qe []):=by
 unfold bS at h;split at h
 ·rename_i q hq;obtain rfl:=wh h;exact aM s (r:=q) (r':=q) rfl hq (by rfl) (.inl ⟨rfl,rfl⟩) rfl rfl (Qdw q) rfl (by kernel_rfl)
 ·rename_i q hq;obtain rfl:=wh h;exact aM s (r:=zBd) rfl hq (by rfl) (.inr (.inr ⟨_,rfl,rfl⟩)) rfl rfl (Qdk zBd) rfl (by kernel_rfl)
 ·cases h
def s46(p0:ze):Sp (Z5×Int):=⟨46,[.str p0],[],(bS p0).map λr=>(⟨r.1,r.2.1,r.2.2.1,r.2.2.2.1,r.q.1⟩,r.q.2),λr=>bdV (r.1.ft,r.1.fI,r.1.fF,r.1.fC,r.1.fQ,r.2),λ_=>[],[],λ_ _ h=>by simp at h,λr h=>by obtain⟨q,hq,rfl⟩:=zG.1 h;exact Qdh p0 hq⟩
def g47(p0:Z5):TT (ze×Int):=.cl 1002 (OB p0) λr464=>.br 0 (!r464) (.done (zg,180)) (.cl 3002 (Cx p0) λr465=>.done (r465,0))
def s47(p0:Z5):Sp (ze×Int):=oF [0,1,2,3,6] Tryz.func47 [.agg [.str p0.ft,.str p0.fI,.i p0.fF,.i p0.fC,.i p0.fQ]] (g47 p0) (λr=>.Qt [.str r.1,.i r.2])
def Qem(p0:ze):TT (Bool):=.cl 1002 (s46 p0) λr466=>.done (r466.2==0)
def lL(p0:ze):Sp (Bool):=oF [0,2,4] Tryz.func117 [.str p0] (Qem p0) (λr=>.bool r)
def Qku(p0:ze):TT (Bool):=.cl 1002 (Ff p0) λr470=>.done (!r470)
def tD(p0:ze):Sp (Bool):=oF [0,2] Tryz.func268 [.str p0] (Qku p0) (λr=>.bool r)
def Qmx(p0:List ze):TT (Int):=.QA 1 (.lp (λ(l472:Int)=>Ext.l .normal [(0,Sl 1 Z6 p0),(1,.fn 268 [] []),(4,.i 0),(7,.i (E6 Z6 p0)),(8,.i l472)] []) (λl472=>.br 0 (decide (l472 < (E6 Z6 p0))) (.row 4004 Z6 p0 l472.toNat (decide (0<=l472)) λx473=>.cl 4006 (tD x473) λr474=>.br 0 r474 (.done (.inr (.inl l472))) (.done (.inl (Q0 (l472+1))))) (.done (.inr (.inr ())))) 0) (λ(e475:Int)=>Ext.l .ret [(4,.i e475)] []) (λ(e476:Unit)=>Ext.l (.exit 0) [(4,.i 0)] []) (λe475=>.done e475) (λe476=>.done (-1))
def vO(p0:List ze):Sp (Int):=oF [0,1,4,5,7,8,9,16] Tryz.func173 [Sl 1 Z6 p0,.fn 268 [] []] (Qmx p0) (λr=>.int .i64 r)
def Qex(p0:List ze):TT (Bool):=.cl 1003 (vO p0) λr477=>.done (decide ((0:Int)<=r477))
def Qqw(p0:List ze):Sp (Bool):=oF [0,1,4] Tryz.func114 [Sl 1 Z6 p0,.fn 268 [] []] (Qex p0) (λr=>.bool r)
def g93(p0:List ze)(p1:ze):TT (Int):=.QA 1 (.lp (λ(l482:Int)=>Ext.l .normal [(0,Sl 1 Z6 p0),(1,.str p1),(4,.i 0),(7,.i (E6 Z6 p0)),(8,.i l482)] []) (λl482=>.br 0 (decide (l482 < (E6 Z6 p0))) (.row 4004 Z6 p0 l482.toNat (decide (0<=l482)) λx483=>.br 0 (decide (p1=x483)) (.done (.inr (.inl l482))) (.done (.inl (Q0 (l482+1))))) (.done (.inr (.inr ())))) 0) (λ(e484:Int)=>Ext.l .ret [(4,.i e484)] []) (λ(e485:Unit)=>Ext.l (.exit 0) [(4,.i 0)] []) (λe484=>.done e484) (λe485=>.done (-1))
def s93(p0:List ze)(p1:ze):Sp (Int):=oF [0,1,4,5,7,8,9,16] Tryz.func93 [Sl 1 Z6 p0,.str p1] (g93 p0 p1) (λr=>.int .i64 r)
def Qkh(p0:Z5)(p1:List ze):TT (Int×Int):=.cl 1002 (OB p0) λr467=>.br 0 (!r467) (.done (0,180)) (.br 0 (decide ((8:Int) < (E6 Z6 p1))) (.done (0,3)) (.cl 5002 (Qqw p1) λr478=>.br 0 r478 (.done (0,5)) (.cl 7003 (Cx p0) λr479=>.cl 7004 (s93 p1 r479) λr486=>.br 0 (decide (r486 < 0)) (.done (0,4)) (.done (r486,0)))))
def tX(p0:Z5)(p1:List ze):Sp (Int×Int):=oF [0,1,2,4,5,6,9,12,14,20] Tryz.func262 [.agg [.str p0.ft,.str p0.fI,.i p0.fF,.i p0.fC,.i p0.fQ],Sl 1 Z6 p1] (Qkh p0 p1) (λr=>.Qt [.i r.1,.i r.2])
def Qkd(p0:Z5)(p1:List ze)(p2:Int):TT (Int):=.cl 1003 (tX p0 p1) λr487=>.br 0 (r487.2 != 0) (.done r487.2) (.QV 4 [18] (.oR 4004 (decide (p2 < 0)) (.done (decide ((1099511627776:Int) < p2)))) zm λc488=>.br 0 c488 (.done 2) (.QV 6 [25] (.oR 6006 (decide (p2 < p0.fF)) (.done (decide (p0.fC < p2)))) zm λc489=>.br 0 c489 (.done 10) (.done 0)))
def tL(p0:Z5)(p1:List ze)(p2:Int):Sp (Int):=oF [0,1,2,3,6,8,16,18,25] Tryz.func251 [.agg [.str p0.ft,.str p0.fI,.i p0.fF,.i p0.fC,.i p0.fQ],Sl 1 Z6 p1,.i p2] (Qkd p0 p1 p2) (λr=>.int .i64 r)
structure Qq where
 fw:Int
 fU:Int
 fG:ze
structure Z9 where
 fE:Int
 fV:Int
 fL:Int
def Qeg(p0 p1:Int):TT (Bool):=.QV 1 [4] (.an 1004 (decide ((0:Int)<=p0)) (.done (decide (p0<=p1)))) zm λc490=>.done c490
def Sc(p0 p1:Int):Sp (Bool):=oF [0,1,4] Tryz.func102 [.i p0,.i p1] (Qeg p0 p1) (λr=>.bool r)
def g58(p0:Qq):TT (Int):=.QV 1 [18] (.cl 1003 (Sc p0.fw 255) λr491=>.oR 1006 (!r491) (.cl 1008 (Sc p0.fU 65535) λr492=>.oR 1012 (!r492) (.done (decide ((4000:Int) < (p0.fG.size:Int)))))) zm λc493=>.br 0 c493 (.done 190) (.done 0)
def s58(p0:Qq):Sp (Int):=oF [0,1,2,18] Tryz.func58 [.agg [.i p0.fw,.i p0.fU,.str p0.fG]] (g58 p0) (λr=>.int .i64 r)
def vI(p0:Int):Sp (Int):=oF [0,2] Tryz.func175 [.i p0] (.Qf 1003 (decide ((0:Int)<=(Q0 (p0 - 1)))) (.done (if (6400:Int) < (M6 .i64 400 (Q0 (p0 - 1))) then (6400:Int) else (M6 .i64 400 (Q0 (p0 - 1))))):TT (Int)) (λr=>.int .i64 r)
def Qek(p0:Z9):TT (Int):=.QV 2 [31] (.an 2004 (!((p0.fE==(-1))&&((p0.fV==0)&&((p0.fL==0)&&true)))) (.oR 2008 (decide (p0.fE < 0)) (.oR 2013 (decide (p0.fL < 1)) (.oR 2018 (decide ((8:Int) < p0.fL)) (.cl 2022 (vI p0.fL) λr494=>.done (p0.fV != r494)))))) zm λc495=>.br 0 c495 (.done 192) (.done 0)
def lO(p0:Z9):Sp (Int):=oF [0,1,2,3,31] Tryz.func118 [.agg [.i p0.fE,.i p0.fV,.i p0.fL]] (Qek p0) (λr=>.int .i64 r)
def Qmg(p0:Z9)(p1:Int):TT (Bool×Int):=.cl 1002 (lO p0) λr496=>.br 0 (r496 != 0) (.done (false,192)) (.cl 3002 (Sc p1 1099511627776) λr497=>.br 0 (!r497) (.done (false,2)) (.cl 5004 (Sc p0.fE p1) λr498=>.done (r498,0)))
def lD(p0:Z9)(p1:Int):Sp (Bool×Int):=oF [0,1,2,4,5,6,10] Tryz.func167 [.agg [.i p0.fE,.i p0.fV,.i p0.fL],.i p1] (Qmg p0 p1) (λr=>.Qt [.bool r.1,.i r.2])
def Qmf(p0:Z9)(p1:Int):TT (Z9×Int):=.cl 1003 (lD p0 p1) λr499=>.br 0 (r499.2 != 0) (.done ((Z9.mk 0 0 0),r499.2)) (.br 0 (!r499.1) (.done ((Z9.mk 0 0 0),8)) (.br 0 (p0.fL==8) (.done ((Z9.mk 0 0 0),4)) (.cl 8004 (vI (Q0 (p0.fL+1))) λr500=>.done ((Z9.mk (Q0 (p1+r500)) r500 (Q0 (p0.fL+1))),0))))
def vR(p0:Z9)(p1:Int):Sp (Z9×Int):=oF [0,1,2,4,5,6,7,8,15,20,24] Tryz.func168 [.agg [.i p0.fE,.i p0.fV,.i p0.fL],.i p1] (Qmf p0 p1) (λr=>.Qt [.agg [.i r.1.fE,.i r.1.fV,.i r.1.fL],.i r.2])
def Qm1(p0:Int):TT (Z9×Int):=.cl 1002 (Sc p0 1099511627776) λr501=>.br 0 (!r501) (.done ((Z9.mk 0 0 0),2)) (.done ((Z9.mk (Q0 (p0+400)) 400 1),0))
def tT(p0:Int):Sp (Z9×Int):=oF [0,2,3,6] Tryz.func212 [.i p0] (Qm1 p0) (λr=>.Qt [.agg [.i r.1.fE,.i r.1.fV,.i r.1.fL],.i r.2])
end Go.Proofs.YtjdieimefebnfaaGreatDoor
