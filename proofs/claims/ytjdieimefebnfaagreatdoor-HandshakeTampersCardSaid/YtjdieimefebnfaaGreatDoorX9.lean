/- Part X9. -/
import Derived.Test.YtjdieimefebnfaaGreatDoorX8
import Derived.Shelf.Strings.Repeat
import Derived.Shelf.Strings.OnBuilder
set_option linter.all false
set_option maxRecDepth 100000
noncomputable section
namespace Go.Proofs.YtjdieimefebnfaaGreatDoor
open Go Go.EV
def Q6:Ty Int:=⟨λx=>[.i x],λx=>[.i x],λ_=>rfl,λ_=>rfl,λ_ _=>rfl,λ_=>rfl⟩
def Yl(o:Operand)(d b:Nat)(f:Nat->Int):Qh Tryz.prog GG Unit:=.DF 191 o d b ⟨1,true,(Y7 f).map Q6.c⟩ (.agg (V4 f)) (show 1 < J0 by decide) (by kernel_rfl)
def HX(o v:Operand)(b:Nat)(f g:Nat->Int):Qh Tryz.prog GG Unit:=.Mz (ty:=Q6) 191 o v b ⟨1,true,(Y7 f).map Q6.c⟩ (.agg (V4 g)) (Y7 g) (λ_=>rfl) (show 1 < J0 by decide) rfl rfl rfl (by kernel_rfl) (by kernel_rfl)
def Xt(d:Nat):Qh Tryz.prog GG Unit:=.MZ (ty:=Q6) 191 d (Y7 λ_=>0) (λ_=>rfl) (by kernel_rfl)
def MH(o i:Operand)(d b:Nat)(f:Nat->Int)(n:Int):Qh Tryz.prog GG Unit:=.Yi (e:=3) 191 o i d b ⟨1,true,(Y7 f).map Q6.c⟩ 0 .i64 n 16 (by kernel_rfl) (by kernel_rfl)
def s71 :Sp (ze):=oF [0] Tryz.func71 [] (.Qq 1003 (Qh.Uf (ty:=Y2) (t:=57) (e:=5) (k:=.u8) (.const (.int .i64 31)) (.const (.int .i64 31)) 3 31 1) λ_=>.Qq 1004 (Qh.YP (ty:=Y2) (s:=57) (t:=9) (e:=5) (.tmp 3) 4 3 (List.replicate 31 (0:Int)) 31 (hn:=(by simp))) λ_=>.Qa 1005 (decide ((bs [9]).size+(strOfNums (List.replicate 31 (0:Int))).size<=9223372036854775807)) (.done ((bs [9])++(strOfNums (List.replicate 31 (0:Int))))):TT (ze)) (λr=>.str r)
def Qmp(p0:ze):TT (ze):=.Qq 1002 (Qh.octets (ty:=Y2) (s:=9) (t:=57) (e:=5) (.tmp 4) 5 p0) λ_=>.Qa 2003 (decide (0<=(0:Int))&&decide ((0:Int) < ((Q2 p0).length:Int))) (.row 2004 Y2 (Q2 p0) 0 true λx292=>.Qa 2007 (decide (0<=(0:Int))&&decide ((0:Int) < ((Q2 p0).length:Int))) (.row 2008 Y2 (Q2 p0) 0 true λx293=>.re 2008 (Ji.put 5 1 Y2 (Q2 p0) 0 (Qk ((Qk (Int.tdiv x292 8)) * 8))) (.gh 5 (.len 5 (((Q2 p0).set 0 (Qk ((Qk (Int.tdiv x292 8)) * 8))).length) [(Q2 p0).length] (by simp)) (.Qa 3003 (decide (0<=(31:Int))&&decide ((31:Int) < (((Q2 p0).set 0 (Qk ((Qk (Int.tdiv x292 8)) * 8))).length:Int))) (.row 3004 Y2 ((Q2 p0).set 0 (Qk ((Qk (Int.tdiv x292 8)) * 8))) 31 true λx294=>.Qa 3007 (decide (0<=(31:Int))&&decide ((31:Int) < (((Q2 p0).set 0 (Qk ((Qk (Int.tdiv x292 8)) * 8))).length:Int))) (.row 3008 Y2 ((Q2 p0).set 0 (Qk ((Qk (Int.tdiv x292 8)) * 8))) 31 true λx295=>.re 3008 (Ji.put 5 1 Y2 ((Q2 p0).set 0 (Qk ((Qk (Int.tdiv x292 8)) * 8))) 31 (Qk ((Int.tmod x294 64)+64))) (.gh 6 (.len 5 ((((Q2 p0).set 0 (Qk ((Qk (Int.tdiv x292 8)) * 8))).set 31 (Qk ((Int.tmod x294 64)+64))).length) [((Q2 p0).set 0 (Qk ((Qk (Int.tdiv x292 8)) * 8))).length] (by simp)) (.Qq 4002 (Qh.YP (ty:=Y2) (s:=57) (t:=9) (e:=5) (.tmp 20) 21 5 (((Q2 p0).set 0 (Qk ((Qk (Int.tdiv x292 8)) * 8))).set 31 (Qk ((Int.tmod x294 64)+64))) ((((Q2 p0).set 0 (Qk ((Qk (Int.tdiv x292 8)) * 8))).set 31 (Qk ((Int.tmod x294 64)+64))).length) (hn:=(by simp))) λ_=>.done (strOfNums (((Q2 p0).set 0 (Qk ((Qk (Int.tdiv x292 8)) * 8))).set 31 (Qk ((Int.tmod x294 64)+64))))))))))))
def Qq4(p0:ze):Sp (ze):=oF [0,2,3] Tryz.func126 [.str p0] (Qmp p0) (λr=>.str r)
def Qmr(p0:ze):TT ((Nat->Int)):=.Qq 1 (Xt 2) λ_=>.Qq 1001 (Xt 3) λ_=>.bind 1 (.lp (λ(l299:(Nat->Int)×Int)=>Ext.of .normal [(0,.str p0),(2,.ptr 2 0 0),(3,.ptr 3 0 0),(4,.i l299.2)] [] [BT.of 2 Q6 1 (Y7 (λ_=>0)) true,BT.of 3 Q6 1 (Y7 l299.1) true] (by rfl)) (λl299=>.br 0 (decide (l299.2 < 16)) (.Qa 5005 (decide (0<=(Q0 ((2:Int) * l299.2))/\(Q0 ((2:Int) * l299.2)) < (p0.size:Int))) (.Qa 5011 (decide (0<=(Q0 ((Q0 ((2:Int) * l299.2))+1))/\(Q0 ((Q0 ((2:Int) * l299.2))+1)) < (p0.size:Int))) (.Qq 5015 (MH (.tmp 3) (.tmp 9) 23 3 l299.1 l299.2) λ_=>.row 5016 Q6 (Y7 l299.1) (0+l299.2.toNat) true λx300=>.re 5016 (Ji.Ol 3 Q6 l299.1 (0+l299.2.toNat) (Q0 ((Q0 (QQ p0 (Q0 ((2:Int) * l299.2))))+(Q0 ((256:Int) * (Q0 (QQ p0 (Q0 ((Q0 ((2:Int) * l299.2))+1))))))))) (.done (.inl ((U6 l299.1 (0+l299.2.toNat) (Q0 ((Q0 (QQ p0 (Q0 ((2:Int) * l299.2))))+(Q0 ((256:Int) * (Q0 (QQ p0 (Q0 ((Q0 ((2:Int) * l299.2))+1))))))))),(Q0 (l299.2+1)))))))) (.done (.inr l299.1))) ((λ_=>0),0)) (λ(e301:(Nat->Int))=>Ext.of (.exit 0) [(2,.ptr 2 0 0),(3,.ptr 3 0 0)] [] [BT.of 2 Q6 1 (Y7 (λ_=>0)) true,BT.of 3 Q6 1 (Y7 e301) true] (by rfl)) (λe301=>.Qq 6001 (MH (.tmp 3) (.const (.int .i64 15)) 24 3 e301 15) λ_=>.row 6002 Q6 (Y7 e301) 15 true λx302=>.Qq 6004 (MH (.tmp 3) (.const (.int .i64 15)) 27 3 e301 15) λ_=>.row 6005 Q6 (Y7 e301) 15 true λx303=>.re 6005 (Ji.Ol 3 Q6 e301 15 (Int.tmod x302 32768)) (.Qq 7001 (Yl (.tmp 3) 28 3 (U6 e301 15 (Int.tmod x302 32768))) λ_=>.Qq 7002 (HX (.tmp 2) (.tmp 28) 2 (λ_=>0) (U6 e301 15 (Int.tmod x302 32768))) λ_=>.done (U6 e301 15 (Int.tmod x302 32768))))
def Qq3(p0:ze):Sp ((Nat->Int)):=oF [0,2,3,4,6] Tryz.func127 [.str p0] (Qmr p0) (λr=>.agg (V4 r))
def Qmn(p0:Int):TT ((Nat->Int)):=.Qq 1 (Xt 2) λ_=>.Qq 1004 (Xt 3) λ_=>.Qq 1005 (Qh.Mz (ty:=Q6) 191 (.tmp 3) (.tmp 6) 3 ⟨1,true,(List.map Q6.c (Y7 (λ_=>0)))⟩ (.agg (W0 [.int .i64 (Int.tmod p0 65536)] (X9 15 (.int .i64 0) []))) (Y7 (U6 (λ_=>0) 0 (Int.tmod p0 65536)))) λ_=>.Qq 2003 (MH (.tmp 3) (.const (.int .i64 1)) 9 3 (U6 (λ_=>0) 0 (Int.tmod p0 65536)) 1) λ_=>.row 2004 Q6 (Y7 (U6 (λ_=>0) 0 (Int.tmod p0 65536))) 1 true λx305=>.re 2004 (Ji.Ol 3 Q6 (U6 (λ_=>0) 0 (Int.tmod p0 65536)) 1 (Q0 (Int.tdiv p0 65536))) (.Qq 3001 (Yl (.tmp 3) 10 3 (U6 (U6 (λ_=>0) 0 (Int.tmod p0 65536)) 1 (Q0 (Int.tdiv p0 65536)))) λ_=>.Qq 3002 (HX (.tmp 2) (.tmp 10) 2 (λ_=>0) (U6 (U6 (λ_=>0) 0 (Int.tmod p0 65536)) 1 (Q0 (Int.tdiv p0 65536)))) λ_=>.done (U6 (U6 (λ_=>0) 0 (Int.tmod p0 65536)) 1 (Q0 (Int.tdiv p0 65536))))
def Se(p0:Int):Sp ((Nat->Int)):=oF [0,2,3] Tryz.func128 [.i p0] (Qmn p0) (λr=>.agg (V4 r))
def Qkp(p0:List Int):TT ((Nat->Int)):=.Qq 1 (Xt 2) λ_=>.Qq 1001 (Xt 3) λ_=>.bind 1 (.lp (λ(l324:(Nat->Int)×Int)=>Ext.of .normal [(0,Sl 1 Q6 p0),(2,.ptr 2 0 0),(3,.ptr 3 0 0),(4,.i l324.2)] [] [BT.of 2 Q6 1 (Y7 (λ_=>0)) true,BT.of 3 Q6 1 (Y7 l324.1) true] (by rfl)) (λl324=>.br 0 (decide (l324.2 < (I5 Q6 p0))) (.br 0 (decide (l324.2 < 16)) (.Qq 6003 (MH (.tmp 3) (.tmp 17) 18 3 l324.1 l324.2) λ_=>.row 6004 Q6 (Y7 l324.1) (0+l324.2.toNat) true λx325=>.row 6007 Q6 p0 l324.2.toNat (decide (0<=l324.2)) λx326=>.Qq 6010 (MH (.tmp 3) (.tmp 16) 25 3 l324.1 l324.2) λ_=>.row 6011 Q6 (Y7 l324.1) (0+l324.2.toNat) true λx327=>.re 6011 (Ji.Ol 3 Q6 l324.1 (0+l324.2.toNat) (Q0 (x325+x326))) (.done (.inl ((U6 l324.1 (0+l324.2.toNat) (Q0 (x325+x326))),(Q0 (l324.2+1)))))) (.Qq 7005 (MH (.tmp 3) (.tmp 29) 30 3 l324.1 (Q0 (l324.2 - 16))) λ_=>.row 7006 Q6 (Y7 l324.1) (0+(Q0 (l324.2 - 16)).toNat) true λx328=>.row 7009 Q6 p0 l324.2.toNat (decide (0<=l324.2)) λx329=>.Qq 7013 (MH (.tmp 3) (.tmp 27) 38 3 l324.1 (Q0 (l324.2 - 16))) λ_=>.row 7014 Q6 (Y7 l324.1) (0+(Q0 (l324.2 - 16)).toNat) true λx330=>.re 7014 (Ji.Ol 3 Q6 l324.1 (0+(Q0 (l324.2 - 16)).toNat) (Q0 (x328+(Q0 ((38:Int) * x329))))) (.done (.inl ((U6 l324.1 (0+(Q0 (l324.2 - 16)).toNat) (Q0 (x328+(Q0 ((38:Int) * x329))))),(Q0 (l324.2+1))))))) (.done (.inr l324.1))) ((λ_=>0),0)) (λ(e331:(Nat->Int))=>Ext.of (.exit 0) [(2,.ptr 2 0 0),(3,.ptr 3 0 0)] [] [BT.of 2 Q6 1 (Y7 (λ_=>0)) true,BT.of 3 Q6 1 (Y7 e331) true] (by rfl)) (λe331=>.bind 1 (.lp (λ(l342:(Nat->Int)×Int)=>Ext.of .normal [(2,.ptr 2 0 0),(3,.ptr 3 0 0),(5,.i l342.2)] [] [BT.of 2 Q6 1 (Y7 (λ_=>0)) true,BT.of 3 Q6 1 (Y7 l342.1) true] (by rfl)) (λl342=>.br 0 (decide (l342.2 < 3)) (.bind 2 (.lp (λ(l346:(Nat->Int)×Int×Int)=>Ext.of .normal [(2,.ptr 2 0 0),(3,.ptr 3 0 0),(5,.i l342.2),(6,.i l346.2.1),(7,.i l346.2.2)] [] [BT.of 2 Q6 1 (Y7 (λ_=>0)) true,BT.of 3 Q6 1 (Y7 l346.1) true] (by rfl)) (λl346=>.br 0 (decide (l346.2.2 < 16)) (.Qq 15003 (MH (.tmp 3) (.tmp 48) 49 3 l346.1 l346.2.2) λ_=>.row 15004 Q6 (Y7 l346.1) (0+l346.2.2.toNat) true λx347=>.Qq 16004 (MH (.tmp 3) (.tmp 52) 55 3 l346.1 l346.2.2) λ_=>.row 16005 Q6 (Y7 l346.1) (0+l346.2.2.toNat) true λx348=>.re 16005 (Ji.Ol 3 Q6 l346.1 (0+l346.2.2.toNat) (Int.tmod (Q0 (l346.2.1+x347)) 65536)) (.done (.inl ((U6 l346.1 (0+l346.2.2.toNat) (Int.tmod (Q0 (l346.2.1+x347)) 65536)),(Q0 (Int.tdiv (Q0 (l346.2.1+x347)) 65536)),(Q0 (l346.2.2+1)))))) (.done (.inr (l346.1,l346.2.1)))) (l342.1,0,0)) (λ(e349:(Nat->Int)×Int)=>Ext.of (.exit 4) [(2,.ptr 2 0 0),(3,.ptr 3 0 0),(5,.i l342.2),(6,.i e349.2)] [] [BT.of 2 Q6 1 (Y7 (λ_=>0)) true,BT.of 3 Q6 1 (Y7 e349.1) true] (by rfl)) (λe349=>.Qq 18001 (MH (.tmp 3) (.const (.int .i64 0)) 58 3 e349.1 0) λ_=>.row 18002 Q6 (Y7 e349.1) 0 true λx350=>.Qq 18006 (MH (.tmp 3) (.const (.int .i64 0)) 63 3 e349.1 0) λ_=>.row 18007 Q6 (Y7 e349.1) 0 true λx351=>.re 18007 (Ji.Ol 3 Q6 e349.1 0 (Q0 (x350+(Q0 ((38:Int) * e349.2))))) (.done (.inl ((U6 e349.1 0 (Q0 (x350+(Q0 ((38:Int) * e349.2))))),(Q0 (l342.2+1))))))) (.done (.inr l342.1))) (e331,0)) (λ(e352:(Nat->Int))=>Ext.of (.exit 2) [(2,.ptr 2 0 0),(3,.ptr 3 0 0)] [] [BT.of 2 Q6 1 (Y7 (λ_=>0)) true,BT.of 3 Q6 1 (Y7 e352) true] (by rfl)) (λe352=>.Qq 19001 (Yl (.tmp 3) 64 3 e352) λ_=>.Qq 19002 (HX (.tmp 2) (.tmp 64) 2 (λ_=>0) e352) λ_=>.done e352))
def TL(p0:List Int):Sp ((Nat->Int)):=oF [0,2,3,4,5,6,7,11,15,40,44] Tryz.func187 [Sl 1 Q6 p0] (Qkp p0) (λr=>.agg (V4 r))
def Qmg(p0 p1:Nat->Int):TT ((Nat->Int)):=.Qq 1 (Qh.Dv (ty:=Q6) 191 (.tmp 0) 2 (Y7 p0)) λ_=>.Qq 2 (Qh.Dv (ty:=Q6) 191 (.tmp 1) 3 (Y7 p1)) λ_=>.Qq 3 (Xt 4) λ_=>.Qq 1001 (Qh.Uf (ty:=Q6) (t:=36) (e:=3) (k:=.i64) (.const (.int .i64 16)) (.const (.int .i64 16)) 7 16 8) λ_=>.bind 1 (.lp (λ(l315:(List Int)×Int)=>Ext.of .normal [(2,.ptr 2 0 0),(3,.ptr 3 0 0),(4,.ptr 4 0 0),(5,.ref 7 0 16),(6,.i l315.2)] [] [BT.of 2 Q6 1 (Y7 p0) true,BT.of 3 Q6 1 (Y7 p1) true,BT.of 4 Q6 1 (Y7 (λ_=>0)) true,Bt 7 Q6 1 l315.1] (by rfl)) (λl315=>.br 0 (decide (l315.2 < 16)) (.Qq 5004 (MH (.tmp 2) (.tmp 14) 15 2 p0 l315.2) λ_=>.row 5005 Q6 (Y7 p0) (0+l315.2.toNat) true λx316=>.Qq 5007 (MH (.tmp 3) (.tmp 17) 18 3 p1 l315.2) λ_=>.row 5008 Q6 (Y7 p1) (0+l315.2.toNat) true λx317=>.Qa 5010 (bD l315.2 16) (.row 5011 Q6 l315.1 (0+l315.2.toNat) true λx318=>.re 5011 (Ji.put 7 1 Q6 l315.1 (0+l315.2.toNat) (Q0 (x316+x317))) (.done (.inl ((l315.1.set (0+l315.2.toNat) (Q0 (x316+x317))),(Q0 (l315.2+1))))))) (.done (.inr l315.1))) ((List.replicate 16 (0:Int)),0)) (λ(e319:(List Int))=>Ext.of (.exit 0) [(4,.ptr 4 0 0),(5,.ref 7 0 16)] [] [BT.of 4 Q6 1 (Y7 (λ_=>0)) true,Bt 7 Q6 1 e319] (by rfl)) (λe319=>.view 6002 (TL (e319.take 16)) [(Zb.part 7 Q6 e319 16)] λr353=>.Qq 6003 (HX (.tmp 4) (.tmp 23) 4 (λ_=>0) r353) λ_=>.done r353)
def Sk(p0 p1:Nat->Int):Sp ((Nat->Int)):=oF [0,1,2,3,4,5,6,9] Tryz.func129 [.agg (V4 p0),.agg (V4 p1)] (Qmg p0 p1) (λr=>.agg (V4 r))
def Qmf(p0 p1:Nat->Int):TT ((Nat->Int)):=.Qq 1 (Qh.Dv (ty:=Q6) 191 (.tmp 0) 2 (Y7 p0)) λ_=>.Qq 2 (Qh.Dv (ty:=Q6) 191 (.tmp 1) 3 (Y7 p1)) λ_=>.Qq 3 (Xt 4) λ_=>.Qq 1001 (Qh.Uf (ty:=Q6) (t:=36) (e:=3) (k:=.i64) (.const (.int .i64 16)) (.const (.int .i64 16)) 7 16 8) λ_=>.bind 1 (.lp (λ(l359:(List Int)×Int)=>Ext.of .normal [(2,.ptr 2 0 0),(3,.ptr 3 0 0),(4,.ptr 4 0 0),(5,.ref 7 0 16),(6,.i l359.2)] [] [BT.of 2 Q6 1 (Y7 p0) true,BT.of 3 Q6 1 (Y7 p1) true,BT.of 4 Q6 1 (Y7 (λ_=>0)) true,Bt 7 Q6 1 l359.1] (by rfl)) (λl359=>.br 0 (decide (l359.2 < 16)) (.Qq 5004 (MH (.tmp 2) (.tmp 14) 15 2 p0 l359.2) λ_=>.row 5005 Q6 (Y7 p0) (0+l359.2.toNat) true λx360=>.Qq 5007 (MH (.tmp 3) (.tmp 17) 18 3 p1 l359.2) λ_=>.row 5008 Q6 (Y7 p1) (0+l359.2.toNat) true λx361=>.Qa 5011 (bD l359.2 16) (.row 5012 Q6 l359.1 (0+l359.2.toNat) true λx362=>.re 5012 (Ji.put 7 1 Q6 l359.1 (0+l359.2.toNat) (Q0 ((Q0 (x360 - x361))+131070))) (.done (.inl ((l359.1.set (0+l359.2.toNat) (Q0 ((Q0 (x360 - x361))+131070))),(Q0 (l359.2+1))))))) (.done (.inr l359.1))) ((List.replicate 16 (0:Int)),0)) (λ(e363:(List Int))=>Ext.of (.exit 0) [(4,.ptr 4 0 0),(5,.ref 7 0 16)] [] [BT.of 4 Q6 1 (Y7 (λ_=>0)) true,Bt 7 Q6 1 e363] (by rfl)) (λe363=>.row 6004 Q6 e363 0 true λx364=>.row 6007 Q6 e363 0 true λx365=>.re 6007 (Ji.put 7 1 Q6 e363 0 (Q0 (x364 - 74))) (.view 7002 (TL ((e363.set 0 (Q0 (x364 - 74))).take 16)) [(Zb.part 7 Q6 (e363.set 0 (Q0 (x364 - 74))) 16)] λr366=>.Qq 7003 (HX (.tmp 4) (.tmp 30) 4 (λ_=>0) r366) λ_=>.done r366))
def Sw(p0 p1:Nat->Int):Sp ((Nat->Int)):=oF [0,1,2,3,4,5,6,9] Tryz.func130 [.agg (V4 p0),.agg (V4 p1)] (Qmf p0 p1) (λr=>.agg (V4 r))
def Qml(p0 p1:Nat->Int):TT ((Nat->Int)):=.Qq 1 (Qh.Dv (ty:=Q6) 191 (.tmp 0) 2 (Y7 p0)) λ_=>.Qq 2 (Qh.Dv (ty:=Q6) 191 (.tmp 1) 3 (Y7 p1)) λ_=>.Qq 3 (Xt 4) λ_=>.Qq 1001 (Qh.Uf (ty:=Q6) (t:=36) (e:=3) (k:=.i64) (.const (.int .i64 31)) (.const (.int .i64 31)) 8 31 8) λ_=>.bind 1 (.lp (λ(l380:(List Int)×Int)=>Ext.of .normal [(2,.ptr 2 0 0),(3,.ptr 3 0 0),(4,.ptr 4 0 0),(5,.ref 8 0 31),(6,.i l380.2)] [] [BT.of 2 Q6 1 (Y7 p0) true,BT.of 3 Q6 1 (Y7 p1) true,BT.of 4 Q6 1 (Y7 (λ_=>0)) true,Bt 8 Q6 1 l380.1] (by rfl)) (λl380=>.br 0 (decide (l380.2 < 16)) (.bind 2 (.lp (λ(l386:(List Int)×Int)=>Ext.of .normal [(2,.ptr 2 0 0),(3,.ptr 3 0 0),(4,.ptr 4 0 0),(5,.ref 8 0 31),(6,.i l380.2),(7,.i l386.2)] [] [BT.of 2 Q6 1 (Y7 p0) true,BT.of 3 Q6 1 (Y7 p1) true,BT.of 4 Q6 1 (Y7 (λ_=>0)) true,Bt 8 Q6 1 l386.1] (by rfl)) (λl386=>.br 0 (decide (l386.2 < 16)) (.Qa 8009 (decide (0<=(Q0 (l380.2+l386.2)))&&decide ((Q0 (l380.2+l386.2)) < (31:Int))) (.row 8010 Q6 l386.1 (0+(Q0 (l380.2+l386.2)).toNat) true λx387=>.Qq 8012 (MH (.tmp 2) (.tmp 27) 28 2 p0 l380.2) λ_=>.row 8013 Q6 (Y7 p0) (0+l380.2.toNat) true λx388=>.Qq 8015 (MH (.tmp 3) (.tmp 30) 31 3 p1 l386.2) λ_=>.row 8016 Q6 (Y7 p1) (0+l386.2.toNat) true λx389=>.Qa 8019 (decide (0<=(Q0 (l380.2+l386.2)))&&decide ((Q0 (l380.2+l386.2)) < (31:Int))) (.row 8020 Q6 l386.1 (0+(Q0 (l380.2+l386.2)).toNat) true λx390=>.re 8020 (Ji.put 8 1 Q6 l386.1 (0+(Q0 (l380.2+l386.2)).toNat) (Q0 (x387+(Q0 (x388 * x389))))) (.done (.inl ((l386.1.set (0+(Q0 (l380.2+l386.2)).toNat) (Q0 (x387+(Q0 (x388 * x389))))),(Q0 (l386.2+1)))))))) (.done (.inr l386.1))) (l380.1,0)) (λ(e391:(List Int))=>Ext.of (.exit 2) [(2,.ptr 2 0 0),(3,.ptr 3 0 0),(4,.ptr 4 0 0),(5,.ref 8 0 31),(6,.i l380.2)] [] [BT.of 2 Q6 1 (Y7 p0) true,BT.of 3 Q6 1 (Y7 p1) true,BT.of 4 Q6 1 (Y7 (λ_=>0)) true,Bt 8 Q6 1 e391] (by rfl)) (λe391=>.done (.inl (e391,(Q0 (l380.2+1)))))) (.done (.inr l380.1))) ((List.replicate 31 (0:Int)),0)) (λ(e392:(List Int))=>Ext.of (.exit 0) [(4,.ptr 4 0 0),(5,.ref 8 0 31)] [] [BT.of 4 Q6 1 (Y7 (λ_=>0)) true,Bt 8 Q6 1 e392] (by rfl)) (λe392=>.view 9002 (TL (e392.take 31)) [(Zb.part 8 Q6 e392 31)] λr393=>.Qq 9003 (HX (.tmp 4) (.tmp 37) 4 (λ_=>0) r393) λ_=>.done r393)
def Ma(p0 p1:Nat->Int):Sp ((Nat->Int)):=oF [0,1,2,3,4,5,6,7,10,14] Tryz.func131 [.agg (V4 p0),.agg (V4 p1)] (Qml p0 p1) (λr=>.agg (V4 r))
def Qmi(p0:Nat->Int):TT ((Nat->Int)):=.Qq 1 (Qh.Dv (ty:=Q6) 191 (.tmp 0) 1 (Y7 p0)) λ_=>.Qq 2 (Xt 2) λ_=>.cl 1001 (Se 1) λr356=>.Qq 1002 (Xt 3) λ_=>.Qq 1003 (HX (.tmp 3) (.tmp 5) 3 (λ_=>0) r356) λ_=>.bind 1 (.lp (λ(l360:(Nat->Int)×Int)=>Ext.of .normal [(1,.ptr 1 0 0),(2,.ptr 2 0 0),(3,.ptr 3 0 0),(4,.i l360.2)] [] [BT.of 1 Q6 1 (Y7 p0) true,BT.of 2 Q6 1 (Y7 (λ_=>0)) true,BT.of 3 Q6 1 (Y7 l360.1) true] (by rfl)) (λl360=>.br 0 (decide ((0:Int)<=l360.2)) (.Qq 5001 (Yl (.tmp 3) 10 3 l360.1) λ_=>.Qq 5002 (Yl (.tmp 3) 11 3 l360.1) λ_=>.cl 5003 (Ma l360.1 l360.1) λr361=>.Qq 5004 (HX (.tmp 3) (.tmp 12) 3 l360.1 r361) λ_=>.Zz 6 [18] (.an 6004 (l360.2 != 2) (.done (l360.2 != 4))) zn λc362=>.br 0 c362 (.Qq 7001 (Yl (.tmp 3) 19 3 r361) λ_=>.Qq 7002 (Yl (.tmp 1) 20 1 p0) λ_=>.cl 7003 (Ma r361 p0) λr363=>.Qq 7004 (HX (.tmp 3) (.tmp 21) 3 r361 r363) λ_=>.done (.inl (r363,(Q0 (l360.2 - 1))))) (.done (.inl (r361,(Q0 (l360.2 - 1)))))) (.done (.inr l360.1))) (r356,254)) (λ(e364:(Nat->Int))=>Ext.of (.exit 0) [(2,.ptr 2 0 0),(3,.ptr 3 0 0)] [] [BT.of 2 Q6 1 (Y7 (λ_=>0)) true,BT.of 3 Q6 1 (Y7 e364) true] (by rfl)) (λe364=>.Qq 8001 (Yl (.tmp 3) 22 3 e364) λ_=>.Qq 8002 (HX (.tmp 2) (.tmp 22) 2 (λ_=>0) e364) λ_=>.done e364)
def Qq1(p0:Nat->Int):Sp ((Nat->Int)):=oF [0,1,2,3,4,7,18] Tryz.func133 [.agg (V4 p0)] (Qmi p0) (λr=>.agg (V4 r))
def Qkr(p0:Nat->Int):TT (Bool):=.Qq 1 (Qh.Dv (ty:=Q6) 191 (.tmp 0) 1 (Y7 p0)) λ_=>.QC 1 (.lp (λ(l371:Int)=>Ext.of .normal [(1,.ptr 1 0 0),(2,.bool false),(3,.i l371)] [] [BT.of 1 Q6 1 (Y7 p0) true] (by rfl)) (λl371=>.br 0 (decide ((1:Int)<=l371)) (.bind 1 (.br 0 (l371==15) (.done 32767) (.done 65535)) (λ(e372:Int)=>Ext.of .normal [(1,.ptr 1 0 0),(2,.bool false),(3,.i l371),(4,.i e372)] [] [BT.of 1 Q6 1 (Y7 p0) true] (by rfl)) (λe372=>.Qq 7002 (MH (.tmp 1) (.tmp 11) 12 1 p0 l371) λ_=>.row 7003 Q6 (Y7 p0) (0+l371.toNat) true λx373=>.br 0 (x373 != e372) (.Qq 8002 (MH (.tmp 1) (.tmp 16) 17 1 p0 l371) λ_=>.row 8003 Q6 (Y7 p0) (0+l371.toNat) true λx374=>.done (.inr (.inl (decide (x374 < e372))))) (.done (.inl (Q0 (l371 - 1)))))) (.done (.inr (.inr ())))) 15) (λ(e375:Bool)=>Ext.of .ret [(1,.ptr 1 0 0),(2,.bool e375)] [] [BT.of 1 Q6 1 (Y7 p0) true] (by rfl)) (λ(e376:Unit)=>Ext.of (.exit 0) [(1,.ptr 1 0 0),(2,.bool false)] [] [BT.of 1 Q6 1 (Y7 p0) true] (by rfl)) (λe375=>.done e375) (λe376=>.Qq 9001 (MH (.tmp 1) (.const (.int .i64 0)) 21 1 p0 0) λ_=>.row 9002 Q6 (Y7 p0) 0 true λx377=>.done (decide (x377 < 65517)))
def vZ(p0:Nat->Int):Sp (Bool):=oF [0,1,2,3,4,6,10,15] Tryz.func188 [.agg (V4 p0)] (Qkr p0) (λr=>.bool r)
def Qmo(p0:Nat->Int):TT (ze):=.Qq 1 (Qh.Dv (ty:=Q6) 191 (.tmp 0) 1 (Y7 p0)) λ_=>.bind 1 (.lp (λ(l380:(Nat->Int))=>Ext.of .normal [(1,.ptr 1 0 0),(2,.str zg)] [] [BT.of 1 Q6 1 (Y7 l380) true] (by rfl)) (λl380=>.Qq 1001 (Yl (.tmp 1) 7 1 l380) λ_=>.cl 1002 (vZ l380) λr381=>.br 0 (!r381) (.bind 2 (.lp (λ(l385:(Nat->Int)×Int×Int)=>Ext.of .normal [(1,.ptr 1 0 0),(2,.str zg),(3,.i l385.2.1),(4,.i l385.2.2)] [] [BT.of 1 Q6 1 (Y7 l385.1) true] (by rfl)) (λl385=>.br 0 (decide (l385.2.2 < 16)) (.Qq 6003 (MH (.tmp 1) (.tmp 15) 16 1 l385.1 l385.2.2) λ_=>.row 6004 Q6 (Y7 l385.1) (0+l385.2.2.toNat) true λx386=>.Qq 7004 (MH (.tmp 1) (.tmp 19) 22 1 l385.1 l385.2.2) λ_=>.row 7005 Q6 (Y7 l385.1) (0+l385.2.2.toNat) true λx387=>.re 7005 (Ji.Ol 1 Q6 l385.1 (0+l385.2.2.toNat) (Int.tmod (Q0 (l385.2.1+x386)) 65536)) (.done (.inl ((U6 l385.1 (0+l385.2.2.toNat) (Int.tmod (Q0 (l385.2.1+x386)) 65536)),(Q0 (Int.tdiv (Q0 (l385.2.1+x386)) 65536)),(Q0 (l385.2.2+1)))))) (.done (.inr (l385.1,l385.2.1)))) (l380,19,0)) (λ(e388:(Nat->Int)×Int)=>Ext.of (.exit 2) [(1,.ptr 1 0 0),(2,.str zg),(3,.i e388.2)] [] [BT.of 1 Q6 1 (Y7 e388.1) true] (by rfl)) (λe388=>.Qq 9001 (MH (.tmp 1) (.const (.int .i64 15)) 25 1 e388.1 15) λ_=>.row 9002 Q6 (Y7 e388.1) 15 true λx389=>.Qq 9004 (MH (.tmp 1) (.const (.int .i64 15)) 28 1 e388.1 15) λ_=>.row 9005 Q6 (Y7 e388.1) 15 true λx390=>.re 9005 (Ji.Ol 1 Q6 e388.1 15 (Q0 (x389 - 32768))) (.br 0 (decide ((0:Int) < e388.2)) (.Qq 11001 (MH (.tmp 1) (.const (.int .i64 15)) 31 1 (U6 e388.1 15 (Q0 (x389 - 32768))) 15) λ_=>.row 11002 Q6 (Y7 (U6 e388.1 15 (Q0 (x389 - 32768)))) 15 true λx391=>.Qq 11004 (MH (.tmp 1) (.const (.int .i64 15)) 34 1 (U6 e388.1 15 (Q0 (x389 - 32768))) 15) λ_=>.row 11005 Q6 (Y7 (U6 e388.1 15 (Q0 (x389 - 32768)))) 15 true λx392=>.re 11005 (Ji.Ol 1 Q6 (U6 e388.1 15 (Q0 (x389 - 32768))) 15 (Q0 (x391+65536))) (.done (.inl (U6 (U6 e388.1 15 (Q0 (x389 - 32768))) 15 (Q0 (x391+65536)))))) (.done (.inl (U6 e388.1 15 (Q0 (x389 - 32768)))))))) (.done (.inr l380))) p0) (λ(e393:(Nat->Int))=>Ext.of (.exit 0) [(1,.ptr 1 0 0),(2,.str zg)] [] [BT.of 1 Q6 1 (Y7 e393) true] (by rfl)) (λe393=>.gh 1 (.XC 600010 5 1) (.bind 0 (.lp (λ(l397:(List Int)×Int)=>Ext.of .normal [(1,.ptr 1 0 0),(2,.str zg),(5,Rf 600010 l397.1),(6,.i l397.2)] [] [BT.of 1 Q6 1 (Y7 e393) true,Bt 600010 Y2 1 l397.1] (by rfl)) (λl397=>.br 0 (decide (l397.2 < 16)) (.Qq 16003 (MH (.tmp 1) (.tmp 40) 41 1 e393 l397.2) λ_=>.row 16004 Q6 (Y7 e393) (0+l397.2.toNat) true λx398=>.Qq 16008 (MH (.tmp 1) (.tmp 45) 46 1 e393 l397.2) λ_=>.row 16009 Q6 (Y7 e393) (0+l397.2.toNat) true λx399=>.app 16013 Y2 l397.1 [(Qk (Int.tmod x398 256)),(Qk (Q0 (Int.tdiv x399 256)))] 1 false (by intro h;cases h) (.gh 0 (.drop [600010]) (.gh 0 (.Qb 51 600010) (.done (.inl ((l397.1++[(Qk (Int.tmod x398 256)),(Qk (Q0 (Int.tdiv x399 256)))]),(Q0 (l397.2+1)))))))) (.done (.inr l397.1))) ([],0)) (λ(e400:(List Int))=>Ext.of (.exit 4) [(2,.str zg),(5,Rf 600010 e400)] [] [Bt 600010 Y2 1 e400] (by rfl)) (λe400=>.Qq 17002 (Qh.YP (ty:=Y2) (s:=57) (t:=9) (e:=5) (.tmp 52) 53 600010 e400 e400.length (hn:=(by simp))) λ_=>.done (strOfNums e400))))
def Qq2(p0:Nat->Int):Sp (ze):=oF [0,1,2,3,4,5,6,9,11,30,36] Tryz.func132 [.agg (V4 p0)] (Qmo p0) (λr=>.str r)
def g70(p0 p1:ze):TT (ze):=.cl 1002 (Qq4 p0) λr296=>.cl 2002 (Qq3 p1) λr304=>.Qq 2003 (Xt 6) λ_=>.Qq 2004 (HX (.tmp 6) (.tmp 23) 6 (λ_=>0) r304) λ_=>.cl 3001 (Se 1) λr306=>.cl 3002 (Se 0) λr307=>.Qq 3003 (Yl (.tmp 6) 26 6 r304) λ_=>.cl 3004 (Se 1) λr308=>.Qq 3005 (Xt 7) λ_=>.Qq 3006 (Xt 8) λ_=>.Qq 3007 (Xt 9) λ_=>.Qq 3008 (Xt 10) λ_=>.Qq 3009 (HX (.tmp 7) (.tmp 24) 7 (λ_=>0) r306) λ_=>.Qq 3010 (HX (.tmp 8) (.tmp 25) 8 (λ_=>0) r307) λ_=>.Qq 3011 (HX (.tmp 9) (.tmp 26) 9 (λ_=>0) r304) λ_=>.Qq 3012 (HX (.tmp 10) (.tmp 27) 10 (λ_=>0) r308) λ_=>.bind 1 (.lp (λ(l332:(Nat->Int)×(Nat->Int)×(Nat->Int)×(Nat->Int)×Int)=>Ext.of .normal [(4,.str zg),(5,.str r296),(6,.ptr 6 0 0),(7,.ptr 7 0 0),(8,.ptr 8 0 0),(9,.ptr 9 0 0),(10,.ptr 10 0 0),(11,.i l332.q)] [] [BT.of 6 Q6 1 (Y7 r304) true,BT.of 7 Q6 1 (Y7 l332.1) true,BT.of 8 Q6 1 (Y7 l332.2.1) true,BT.of 9 Q6 1 (Y7 l332.2.2.1) true,BT.of 10 Q6 1 (Y7 l332.2.2.2.1) true] (by rfl)) (λl332=>.br 0 (decide ((0:Int)<=l332.q)) (.Qa 7004 (decide (0<=(Q0 (Int.tdiv l332.q 8))/\(Q0 (Int.tdiv l332.q 8)) < (r296.size:Int))) (.Qa 7008 (decide ((0:Int)<=(Z4 (Int.tmod l332.q 8)))) (.bind 0 (.br 0 ((U1 .u8 (Z5 .u8 (QQ r296 (Q0 (Int.tdiv l332.q 8))) (Z4 (Int.tmod l332.q 8))) 1)==1) (.Qq 9001 (Yl (.tmp 9) 43 9 l332.2.2.1) λ_=>.Qq 9002 (Yl (.tmp 10) 44 10 l332.2.2.2.1) λ_=>.Qq 9003 (Yl (.tmp 7) 45 7 l332.1) λ_=>.Qq 9004 (Yl (.tmp 8) 46 8 l332.2.1) λ_=>.Qq 9005 (HX (.tmp 7) (.tmp 43) 7 l332.1 l332.2.2.1) λ_=>.Qq 9006 (HX (.tmp 8) (.tmp 44) 8 l332.2.1 l332.2.2.2.1) λ_=>.Qq 9007 (HX (.tmp 9) (.tmp 45) 9 l332.2.2.1 l332.1) λ_=>.Qq 9008 (HX (.tmp 10) (.tmp 46) 10 l332.2.2.2.1 l332.2.1) λ_=>.done (l332.2.2.1,l332.2.2.2.1,l332.1,l332.2.1)) (.done (l332.1,l332.2.1,l332.2.2.1,l332.2.2.2.1))) (λ(e333:(Nat->Int)×(Nat->Int)×(Nat->Int)×(Nat->Int))=>Ext.of .normal [(4,.str zg),(5,.str r296),(6,.ptr 6 0 0),(7,.ptr 7 0 0),(8,.ptr 8 0 0),(9,.ptr 9 0 0),(10,.ptr 10 0 0),(11,.i l332.q),(12,.bool ((U1 .u8 (Z5 .u8 (QQ r296 (Q0 (Int.tdiv l332.q 8))) (Z4 (Int.tmod l332.q 8))) 1)==1))] [] [BT.of 6 Q6 1 (Y7 r304) true,BT.of 7 Q6 1 (Y7 e333.1) true,BT.of 8 Q6 1 (Y7 e333.2.1) true,BT.of 9 Q6 1 (Y7 e333.2.2.1) true,BT.of 10 Q6 1 (Y7 e333.2.2.2) true] (by rfl)) (λe333=>.Qq 10001 (Yl (.tmp 7) 47 7 e333.1) λ_=>.Qq 10002 (Yl (.tmp 8) 48 8 e333.2.1) λ_=>.cl 10003 (Sk e333.1 e333.2.1) λr334=>.Qq 10004 (Yl (.tmp 7) 50 7 e333.1) λ_=>.Qq 10005 (Yl (.tmp 8) 51 8 e333.2.1) λ_=>.cl 10006 (Sw e333.1 e333.2.1) λr335=>.Qq 10007 (Xt 13) λ_=>.Qq 10008 (Xt 14) λ_=>.Qq 10009 (HX (.tmp 13) (.tmp 49) 13 (λ_=>0) r334) λ_=>.Qq 10010 (HX (.tmp 14) (.tmp 52) 14 (λ_=>0) r335) λ_=>.Qq 11001 (Yl (.tmp 13) 53 13 r334) λ_=>.Qq 11002 (Yl (.tmp 13) 54 13 r334) λ_=>.cl 11003 (Ma r334 r334) λr336=>.Qq 11004 (Yl (.tmp 14) 56 14 r335) λ_=>.Qq 11005 (Yl (.tmp 14) 57 14 r335) λ_=>.cl 11006 (Ma r335 r335) λr337=>.Qq 11007 (Xt 15) λ_=>.Qq 11008 (Xt 16) λ_=>.Qq 11009 (HX (.tmp 15) (.tmp 55) 15 (λ_=>0) r336) λ_=>.Qq 11010 (HX (.tmp 16) (.tmp 58) 16 (λ_=>0) r337) λ_=>.Qq 12001 (Yl (.tmp 15) 59 15 r336) λ_=>.Qq 12002 (Yl (.tmp 16) 60 16 r337) λ_=>.cl 12003 (Sw r336 r337) λr338=>.Qq 12004 (Xt 17) λ_=>.Qq 12005 (HX (.tmp 17) (.tmp 61) 17 (λ_=>0) r338) λ_=>.Qq 13001 (Yl (.tmp 9) 62 9 e333.2.2.1) λ_=>.Qq 13002 (Yl (.tmp 10) 63 10 e333.2.2.2) λ_=>.cl 13003 (Sw e333.2.2.1 e333.2.2.2) λr339=>.Qq 13004 (Yl (.tmp 13) 65 13 r334) λ_=>.cl 13005 (Ma r339 r334) λr340=>.Qq 13006 (Yl (.tmp 9) 67 9 e333.2.2.1) λ_=>.Qq 13007 (Yl (.tmp 10) 68 10 e333.2.2.2) λ_=>.cl 13008 (Sk e333.2.2.1 e333.2.2.2) λr341=>.Qq 13009 (Yl (.tmp 14) 70 14 r335) λ_=>.cl 13010 (Ma r341 r335) λr342=>.Qq 13011 (Xt 18) λ_=>.Qq 13012 (Xt 19) λ_=>.Qq 13013 (HX (.tmp 18) (.tmp 66) 18 (λ_=>0) r340) λ_=>.Qq 13014 (HX (.tmp 19) (.tmp 71) 19 (λ_=>0) r342) λ_=>.Qq 14001 (Yl (.tmp 15) 72 15 r336) λ_=>.Qq 14002 (Yl (.tmp 16) 73 16 r337) λ_=>.cl 14003 (Ma r336 r337) λr343=>.Qq 14004 (HX (.tmp 7) (.tmp 74) 7 e333.1 r343) λ_=>.Qq 15001 (Yl (.tmp 17) 75 17 r338) λ_=>.Qq 15002 (Yl (.tmp 15) 76 15 r336) λ_=>.cl 15003 (Se 121665) λr344=>.Qq 15004 (Yl (.tmp 17) 78 17 r338) λ_=>.cl 15005 (Ma r344 r338) λr345=>.cl 15006 (Sk r336 r345) λr346=>.cl 15007 (Ma r338 r346) λr347=>.Qq 15008 (HX (.tmp 8) (.tmp 81) 8 e333.2.1 r347) λ_=>.Qq 16001 (Yl (.tmp 18) 82 18 r340) λ_=>.Qq 16002 (Yl (.tmp 19) 83 19 r342) λ_=>.cl 16003 (Sk r340 r342) λr348=>.Qq 16004 (Yl (.tmp 18) 85 18 r340) λ_=>.Qq 16005 (Yl (.tmp 19) 86 19 r342) λ_=>.cl 16006 (Sk r340 r342) λr349=>.cl 16007 (Ma r348 r349) λr350=>.Qq 16008 (HX (.tmp 9) (.tmp 88) 9 e333.2.2.1 r350) λ_=>.Qq 17001 (Yl (.tmp 6) 89 6 r304) λ_=>.Qq 17002 (Yl (.tmp 18) 90 18 r340) λ_=>.Qq 17003 (Yl (.tmp 19) 91 19 r342) λ_=>.cl 17004 (Sw r340 r342) λr351=>.Qq 17005 (Yl (.tmp 18) 93 18 r340) λ_=>.Qq 17006 (Yl (.tmp 19) 94 19 r342) λ_=>.cl 17007 (Sw r340 r342) λr352=>.cl 17008 (Ma r351 r352) λr353=>.cl 17009 (Ma r304 r353) λr354=>.Qq 17010 (HX (.tmp 10) (.tmp 97) 10 e333.2.2.2 r354) λ_=>.br 0 ((U1 .u8 (Z5 .u8 (QQ r296 (Q0 (Int.tdiv l332.q 8))) (Z4 (Int.tmod l332.q 8))) 1)==1) (.Qq 19001 (Yl (.tmp 9) 99 9 r350) λ_=>.Qq 19002 (Yl (.tmp 10) 100 10 r354) λ_=>.Qq 19003 (Yl (.tmp 7) 101 7 r343) λ_=>.Qq 19004 (Yl (.tmp 8) 102 8 r347) λ_=>.Qq 19005 (HX (.tmp 7) (.tmp 99) 7 r343 r350) λ_=>.Qq 19006 (HX (.tmp 8) (.tmp 100) 8 r347 r354) λ_=>.Qq 19007 (HX (.tmp 9) (.tmp 101) 9 r350 r343) λ_=>.Qq 19008 (HX (.tmp 10) (.tmp 102) 10 r354 r347) λ_=>.done (.inl (r350,r354,r343,r347,(Q0 (l332.q - 1))))) (.done (.inl (r343,r347,r350,r354,(Q0 (l332.q - 1))))))))) (.done (.inr (l332.1,l332.2.1)))) (r306,r307,r304,r308,254)) (λ(e355:(Nat->Int)×(Nat->Int))=>Ext.of (.exit 0) [(4,.str zg),(7,.ptr 7 0 0),(8,.ptr 8 0 0)] [] [BT.of 7 Q6 1 (Y7 e355.1) true,BT.of 8 Q6 1 (Y7 e355.2) true] (by rfl)) (λe355=>.Qq 20001 (Yl (.tmp 7) 103 7 e355.1) λ_=>.Qq 20002 (Yl (.tmp 8) 104 8 e355.2) λ_=>.cl 20003 (Qq1 e355.2) λr365=>.cl 20004 (Ma e355.1 r365) λr366=>.cl 20005 (Qq2 r366) λr401=>.done r401)
def s70(p0 p1:ze):Sp (ze):=oF [0,1,4,5,6,7,8,9,10,11,12,13,14,15,16,17,18,19,29,42,98] Tryz.func70 [.str p0,.str p1] (g70 p0 p1) (λr=>.str r)
structure Z7 where
 fy:ze
 fJ:ze
 fI:Int
 fF:Int
 fQ:Int
def Qmw(p0:Int):TT (Bool):=.Zz 1 [2] (.br 1004 (decide ((97:Int)<=p0)) (.oR 1008 (decide (p0<=122)) (.br 1011 (decide ((65:Int)<=p0)) (.oR 1016 (decide (p0<=90)) (.br 1019 (decide ((48:Int)<=p0)) (.oR 1024 (decide (p0<=57)) (.oR 1028 (p0==46) (.done (p0==45)))) (.oR 1028 (p0==46) (.done (p0==45))))) (.br 1019 (decide ((48:Int)<=p0)) (.oR 1024 (decide (p0<=57)) (.oR 1028 (p0==46) (.done (p0==45)))) (.oR 1028 (p0==46) (.done (p0==45)))))) (.br 1011 (decide ((65:Int)<=p0)) (.oR 1016 (decide (p0<=90)) (.br 1019 (decide ((48:Int)<=p0)) (.oR 1024 (decide (p0<=57)) (.oR 1028 (p0==46) (.done (p0==45)))) (.oR 1028 (p0==46) (.done (p0==45))))) (.br 1019 (decide ((48:Int)<=p0)) (.oR 1024 (decide (p0<=57)) (.oR 1028 (p0==46) (.done (p0==45)))) (.oR 1028 (p0==46) (.done (p0==45)))))) zn λc402=>.done c402
def lJ(p0:Int):Sp (Bool):=oF [0,2] Tryz.func151 [.int .u8 p0] (Qmw p0) (λr=>.bool r)
def Qk0(p0:ze)(p1:Int):TT (Int):=.Qq 1003 (Qh.Qao 263 (.tmp 5) (.tmp 6) #[9,5] 7 p0 p1 Tryz.func263 (by kernel_rfl) (by kernel_rfl) (by kernel_rfl) (by kernel_rfl)) λ_=>.done (firstIdx p0 (p1).toNat.toUInt8)
def tH(p0:ze)(p1:Int):Sp (Int):=oF [0,1,4] Tryz.func254 [.str p0,.int .u8 p1] (Qk0 p0 p1) (λr=>.int .i64 r)
def Qkk(p0:ze)(p1:Int):TT (Int):=.cl 1003 (tH p0 p1) λr403=>.done r403
def Sy(p0:ze)(p1:Int):Sp (Int):=oF [0,1,4] Tryz.func220 [.str p0,.int .u8 p1] (Qkk p0 p1) (λr=>.int .i64 r)
noncomputable def Pm:Code:=(cB (cR (cL (cR (cR (Tryz.f91.body.getD .skip))))))
def qW:Code:=MS Pm
def OE:List (Nat×V):=[(1,.ptr 1000001 0 0),(2,.ptr 1000002 0 0),(24,.fn 206 [] [.ptr 1700070 0 0])]
def VaL(b:Z7)(s:ze):List (Nat×Qd):=[(1000001,⟨5,true,[[.str b.fy,.str b.fJ,.int .i64 b.fI,.int .i64 b.fF,.int .i64 b.fQ]]⟩),(1000002,⟨1,true,[[.bool false]]⟩),(1700070,⟨1,true,[[.str s]]⟩)]
def Xb(ts:List (Nat×V))(b:Z7)(s:ze):Ext:=Ext.of .normal ts (VaL b s) [] (by rfl)
def VE(b:Z7)(s:ze)(v:Int):TT (Unit):=
 .cl 5002 (lJ v) λr404=>
 .br 0 (!r404)
 (.fail)
 (.done ())
theorem Qx6(b:Z7)(s:ze)(v:Int):Y3 Tryz.prog GG [1,2,3,28] 60 (I3 Pm) (Xb [(1,.ptr 1000001 0 0),(2,.ptr 1000002 0 0),(3,.int .u8 v)] b s) (VE b s v) (λ(_:Unit)=>Xb [] b s):=by unfold Y3;kernel_rfl
def VM(b:Z7)(s:ze)(v:Int):TT (Unit):=
 .cl 5002 (lJ v) λr405=>
 .br 0 (!r405)
 (.done ())
 (.fail)
theorem Qx5(b:Z7)(s:ze)(v:Int):Y3 Tryz.prog GG [1,2,3,28] 60 (I3 Pm) (Xb [(1,.ptr 1000001 0 0),(2,.ptr 1000002 0 0),(3,.int .u8 v)] b s) (VM b s v) (λ(_:Unit)=>Ext.of .ret [] (VaL b s) [] (by rfl)):=by unfold Y3;kernel_rfl
noncomputable def Pa:Code:=(cB (cR (cL (cR (cR (cR (cR (Tryz.f174.body.getD .skip))))))))
def qD:Code:=MS Pa
def OA:List (Nat×V):=[(2,.ptr 1000002 0 0),(5,.ptr 1000005 0 0),(20,.fn 206 [] [.ptr 1700070 0 0])]
def FiL(y:Int)(s:ze):List (Nat×Qd):=[(1000002,⟨1,true,[[.bool false]]⟩),(1000005,⟨1,true,[[.int .i64 y]]⟩),(1700070,⟨1,true,[[.str s]]⟩)]
def Xc(ts:List (Nat×V))(y:Int)(s:ze):Ext:=Ext.of .normal ts (FiL y s) [] (by rfl)
def VA(y:Int)(s:ze)(v:Int):TT (Int):=
 .Zz 7 [38]
 (.br 7005 ((Int.tmod y 3)==2)
  (.br 7009 (v != 58)
   (.done true)
   (.br 7013 (decide ((Int.tmod y 3) < 2))
    (.cl 7014 (Sy (bs [48,49,50,51,52,53,54,55,56,57,65,66,67,68,69,70]) v) λr406=>
     .done (decide (r406 < 0)))
    (.done false)))
  (.br 7013 (decide ((Int.tmod y 3) < 2))
   (.cl 7014 (Sy (bs [48,49,50,51,52,53,54,55,56,57,65,66,67,68,69,70]) v) λr407=>
    .done (decide (r407 < 0)))
   (.done false)))
 zn λc408=>
 .br 0 c408
 (.fail)
 (.done (Q0 (y+1)))
theorem Qxg(y:Int)(s:ze)(v:Int):Y3 Tryz.prog GG [2,5,6,38] 41 (I3 Pa) (Xc [(2,.ptr 1000002 0 0),(5,.ptr 1000005 0 0),(6,.int .u8 v)] y s) (VA y s v) (λ(r:Int)=>Xc [] r s):=by unfold Y3;kernel_rfl
def VX(y:Int)(s:ze)(v:Int):TT (Unit):=
 .Zz 7 [38]
 (.br 7005 ((Int.tmod y 3)==2)
  (.br 7009 (v != 58)
   (.done true)
   (.br 7013 (decide ((Int.tmod y 3) < 2))
    (.cl 7014 (Sy (bs [48,49,50,51,52,53,54,55,56,57,65,66,67,68,69,70]) v) λr409=>
     .done (decide (r409 < 0)))
    (.done false)))
  (.br 7013 (decide ((Int.tmod y 3) < 2))
   (.cl 7014 (Sy (bs [48,49,50,51,52,53,54,55,56,57,65,66,67,68,69,70]) v) λr410=>
    .done (decide (r410 < 0)))
   (.done false)))
 zn λc411=>
 .br 0 c411
 (.done ())
 (.fail)
theorem Qxf(y:Int)(s:ze)(v:Int):Y3 Tryz.prog GG [2,5,6,38] 41 (I3 Pa) (Xc [(2,.ptr 1000002 0 0),(5,.ptr 1000005 0 0),(6,.int .u8 v)] y s) (VX y s v) (λ(_:Unit)=>Ext.of .ret [] (FiL y s) [] (by rfl)):=by unfold Y3;kernel_rfl
def Ps(b:Z7)(s:ze):List (Nat×Qd):=(Xb [] b s).bs
theorem Qww(b:Z7)(s:ze)(v:Int):Y3 Tryz.prog GG [1,2,3,24,25] 60 qW (Xb ((25,.int .u8 v) :: OE) b s) (.done ():TT Unit) (λ_=>Xb [(1,.ptr 1000001 0 0),(2,.ptr 1000002 0 0),(3,.int .u8 v)] b s):=by unfold Y3;kernel_rfl
theorem Qeo(b:Z7)(s:ze)(v:Int):(Xb ((25,.int .u8 v) :: OE) b s |>.D 60).st=Ks (E6 60 (Zw OE) (Qm (Ps b s))) ([25].zip [.int .u8 v]):=by
 rw[W1 (by rfl)];exact(Uu 60 OE _ 25 (.int .u8 v)).symm
theorem Qdr(b:Z7)(s:ze)(v:Int){r:Unit}(hb:(VE b s v).run=some r) :
  JT Tryz.prog GG 60 (Zw OE) [25] qW (I3 Pm) (Qm (Ps b s)) [.int .u8 v] (λe b'=>e=.normal/\b'=Qm (Ps b s)):=by
 refine⟨((Xb [(1,.ptr 1000001 0 0),(2,.ptr 1000002 0 0),(3,.int .u8 v)] b s).D 60).st,?_,?_⟩
 ·have h:=(Qww b s v).tv Z1 (r:=()) rfl (by rfl);rw[Qeo] at h;exact h
 ·refine((Qx6 b s v).tv Z1 hb (by rfl)).mono λe s' hg=>?_;obtain⟨rfl,g⟩:=hg;refine⟨_,60,⟨rfl,rfl⟩,?_⟩;rw[W1 (by rfl)] at g;exact g
theorem Qdn(b:Z7)(s:ze)(v:Int)(hb:(VM b s v).run=some ()) :
  JT Tryz.prog GG 60 (Zw OE) [25] qW (I3 Pm) (Qm (Ps b s)) [.int .u8 v] (λe b'=>e=.ret/\b'=Qm (Ps b s)):=by
 refine⟨((Xb [(1,.ptr 1000001 0 0),(2,.ptr 1000002 0 0),(3,.int .u8 v)] b s).D 60).st,?_,?_⟩
 ·have h:=(Qww b s v).tv Z1 (r:=()) rfl (by rfl);rw[Qeo] at h;exact h
 ·refine((Qx5 b s v).tv Z1 hb (by rfl)).mono λe s' hg=>?_;obtain⟨rfl,g⟩:=hg;refine⟨_,60,⟨rfl,rfl⟩,?_⟩;rw[W1 (by rfl)] at g;exact g
section
variable (b:Z7) (l:Nat) (s:ze) (i:Int)
def Pp:List (Nat×V):=[(0,.QP l),(1,.ptr 1700070 0 0),(3,.int .i64 i)]
def VaC:Ext:=Xb (Pp l i) b s
def VaD(r:Option Int):Ext:=match r with
 | some c=>Xb (Pp l i++[(8,.bool true),(9,.QP l),(12,.int .u8 c)]) b s
 | none=>Xb (Pp l i++[(8,.bool false)]) b s
theorem Qx9:Y3 Tryz.prog GG [0,1,3] 17 (cL BY) (Xb [(0,.QP l),(1,.ptr 1700070 0 0)] b s) (.done ():TT Unit) (λ_=>VaC b l s 0):=by unfold Y3;kernel_rfl
theorem Qx8:K5 Tryz.prog GG [0,1,3,8,9,12] 17 1 pK 9 (VaC b l s i) (VI s i) (VaD b l s i):=by unfold K5;kernel_rfl
theorem Qx7:Y3 Tryz.prog GG [0,1,3] 17 aR1 (VaC b l s i) (.done ():TT Unit) (λ_=>VaC b l s (Q0 (i+1))):=by unfold Y3;kernel_rfl
end
def MI(b:Z7)(s:ze)(x:Unit×Int):Option ((Unit×Int)⊕(Unit⊕Unit)):=
 match (VI s x.2).run with
 | none=>none
 | some none=>some (.inr (.inl x.1))
 | some (some c)=>match (VE b s c).run with
  | some y=>some (.inl (y,Q0 (x.2+1)))
  | none=>match (VM b s c).run with
   | some _=>some (.inr (.inr ()))
   | none=>none
def mVa(b:Z7)(s:ze):Option (Unit⊕Unit):=I0 (MI b s) Yv ((),0)
def yVa:YL:=⟨60,Zw OE,#[25],qW,I3 Pm⟩
def oVa(b:Z7)(s:ze):(Unit⊕Unit)->Exit->(zj)->Prop
 | .inl r,e,bw=>e=.normal/\bw=Qm (Ps b s)
 | .inr _,e,bw=>e=.ret/\bw=Qm (Ps b s)
theorem Qy8(b:Z7)(s:ze){r:Unit⊕Unit}(h:mVa b s=some r) :
    UM Tryz.prog GG BY 17 (λl=>[.QP l,.ptr 1700070 0 0]) (Qm (Ps b s)) yVa (oVa b s r):=by
  refine UM.of λl=>?_;have e0:U3 17 [.QP l,.ptr 1700070 0 0] (Qm (Ps b s))=((Xb (U5 [.QP l,.ptr 1700070 0 0]) b s).D 17).st:=(B9 (x:=Xb (U5 [.QP l,.ptr 1700070 0 0]) b s) (by rfl) (by rfl) 17).symm;rw[e0,eAl];show YT _ _ _ _ _ ⟨.normal,((Xb [(0,.QP l),(1,.ptr 1700070 0 0)] b s).D 17).st⟩ _;refine YT.seq (YT.piece (Qx9 b l s) Z1 rfl (by rfl) λq g=>?_);show YT _ _ _ _ _ _ _;refine YT.XI g (YT.block ?_);refine YT.loop (λm st=>st.x=.normal/\∃z:Unit×Int,QU GG st.st ((VaC b l s z.2).D 17).st/\I0 (MI b s) m z=some r) (λm st hI=>?_) (n:=Yv) ⟨rfl,((),0),QU.same _,h⟩;obtain⟨x,st⟩:=st;obtain⟨rfl,⟨v,i⟩,g,hit⟩:=hI;refine YT.XI g ?_;cases m with
  | zero=>simp[I0] at hit
  | succ m=>
    rw[ZH] at hit;rw[eAL];cases h4:(VI s i).run with
    | none => have hs0 : MI b s (v, i) = none := by unfold MI; simp only [h4]
              rw[hs0] at hit;simp at hit
    | some c=>
    refine YT.seq (YT.seq (YT.region ?_));show J3 _ _ _ _ _ ([0,1,2,3,4,5,6,7,8]++[9,10]) _ _;refine J3.tv ((Qx8 b l s i).tv Z1 h4 (by cases c<;>rfl)) λe st hq'=>⟨by rw[hq'.1];cases c<;>rfl,J3.XI hq'.2 ?_⟩;cases c with
    | none=>
      have hs0:MI b s (v,i)=some (.inr (.inl v)):=by unfold MI;simp only[h4]
      rw[hs0] at hit;obtain rfl:_=r:=wu hit;show J3 _ _ _ _ _ _ ⟨.normal,((Xb (Pp l i++[(8,.bool false)]) b s).D 17).st⟩ _;refine J3.step rfl (J3.step rfl (J3.nil ?_));show YT _ _ _ _ _ _ _;refine YT.cond (b:=false) rfl (YT.exit ?_);refine⟨.inl rfl,17,Zw (Pp l i++[(8,V.bool false),(14,V.bool false)]),Qm (Ps b s),?_,rfl,rfl⟩;rw[show E6 17 (Zw (Pp l i++[(8,V.bool false),(14,V.bool false)])) (Qm (Ps b s))=((Xb (Pp l i++[(8,V.bool false),(14,V.bool false)]) b s).D 17).st from(W1 (x:=Xb (Pp l i++[(8,V.bool false),(14,V.bool false)]) b s) (by rfl) 17).symm];exact W6 (Xb (Pp l i++[(8,V.bool false),(14,V.bool false)]) b s) (by rfl) rfl ⟨by rfl,by rfl⟩
    | some c=>
      show J3 _ _ _ _ _ _ ⟨.normal,((Xb (Pp l i++[(8,.bool true),(9,.QP l),(12,.int .u8 c)]) b s).D 17).st⟩ _;have es:=W1 (x:=Xb (Pp l i++[(8,V.bool true),(9,V.QP l),(12,V.int .u8 c)]) b s) (by rfl) 17;rw[es];cases h5:(VE b s c).run with
      | some v2=>
        have hs0:MI b s (v,i)=some (.inl (v2,Q0 (i+1))):=by unfold MI;simp only[h4,h5]
        rw[hs0] at hit;refine J3.KS (hi:=rfl) rfl rfl rfl rfl rfl rfl rfl (λi=>L5 (by rfl) i) (λi=>L5 (by rfl) i) (λp hp=>?_) rfl (Qdr b s c h5) (λe b' h=>.inl h.1) λe b' h=>?_
        · have:p∈[25]:=hp;simp at this;subst this;exact(by decide:25 < 60)
        obtain⟨rfl,rfl⟩:=h;refine J3.step rfl (J3.nil ?_);show YT _ _ _ _ _ _ _;refine YT.cond (b:=true) rfl (YT.skip ?_);show YT _ _ _ _ _ _ _;refine YT.seq (YT.block (YT.skip ?_));show YT _ _ _ _ _ _ _;refine YT.XI (st':=((VaC b l s i).D 17).st) (W6 (VaC b l s i) (by rfl) rfl ⟨by rfl,by rfl⟩) ?_;refine YT.piece (Qx7 b l s i) Z1 rfl (by rfl) λq g=>?_;exact⟨m,Nat.lt_succ_self m,rfl,(v2,Q0 (i+1)),g,hit⟩
      | none=>
      cases h6:(VM b s c).run with
      | none => have hs0 : MI b s (v, i) = none := by unfold MI; simp only [h4, h5, h6]
                rw[hs0] at hit;simp at hit
      | some u=>
        have hs0:MI b s (v,i)=some (.inr (.inr ())):=by unfold MI;simp only[h4,h5,h6]
        rw[hs0] at hit;obtain rfl:_=r:=wu hit;refine J3.KS (hi:=rfl) rfl rfl rfl rfl rfl rfl rfl (λi=>L5 (by rfl) i) (λi=>L5 (by rfl) i) (λp hp=>?_) rfl (Qdn b s c h6) (λe b' h=>.inr (.inl h.1)) λe b' h=>?_
        · have:p∈[25]:=hp;simp at this;subst this;exact(by decide:25 < 60)
        obtain⟨rfl,rfl⟩:=h;refine J3.step rfl (J3.nil ?_);show YT _ _ _ _ _ _ _;refine YT.cond (b:=false) rfl (YT.exit ?_);refine⟨.inl rfl,17,Zw (Pp l i++[(8,V.bool true),(9,V.QP l),(12,V.int .u8 c),(13,V.bool false),(14,V.bool false)]),Qm (Ps b s),?_,rfl,rfl⟩;rw[show E6 17 (Zw (Pp l i++[(8,V.bool true),(9,V.QP l),(12,V.int .u8 c),(13,V.bool false),(14,V.bool false)])) (Qm (Ps b s))=((Xb (Pp l i++[(8,V.bool true),(9,V.QP l),(12,V.int .u8 c),(13,V.bool false),(14,V.bool false)]) b s).D 17).st from(W1 (x:=Xb (Pp l i++[(8,V.bool true),(9,V.QP l),(12,V.int .u8 c),(13,V.bool false),(14,V.bool false)]) b s) (by rfl) 17).symm];exact W6 (Xb (Pp l i++[(8,V.bool true),(9,V.QP l),(12,V.int .u8 c),(13,V.bool false),(14,V.bool false)]) b s) (by rfl) rfl ⟨by rfl,by rfl⟩
def OD(b:Z7)(s:ze):Ext:=Ext.of .normal [(1,.ptr 1 0 0),(2,.ptr 2 0 0),(24,.fn 206 [] [.ptr 700070 0 0])] [(1,⟨5,true,[[.str b.fy,.str b.fJ,.i b.fI,.i b.fF,.i b.fQ]]⟩),(2,⟨1,true,[[.bool false]]⟩),(700070,⟨1,true,[[.str s]]⟩)] [] (by rfl)
def VaE(b:Z7):(Unit⊕Unit)->Ext
 | .inl _=>Ext.of .normal [(1,.ptr 1 0 0),(2,.ptr 2 0 0)] [(1,⟨5,true,[[.str b.fy,.str b.fJ,.i b.fI,.i b.fF,.i b.fQ]]⟩),(2,⟨1,true,[[.bool false]]⟩)] [] (by rfl)
 | .inr _=>Ext.of .ret [(2,.ptr 2 0 0)] [(2,⟨1,true,[[.bool false]]⟩)] [] (by rfl)
theorem bVa(b:Z7)(s:ze):QZ (Qm (OD b s).bs)=Qm (Ps b s):=by
 rw[UO];have:((OD b s).bs.map λp=>(sh p.1,p.2.Qb sh))=Ps b s:=by kernel_rfl
 rw[this]
theorem Qzt(b:Z7)(s:ze){r:Unit⊕Unit}(h:mVa b s=some r) :
  TV Tryz.prog GG (.rangeFunc (.tmp 24) #[25] qW (I3 Pm)) ((OD b s).D 60).st (λe st=>e=(VaE b r).ex/\QU GG st ((VaE b r).D 60).st):=by
 have ht:(λi=>W3 sh (((OD b s).D 60).st.t i))=Zw OE:=by
  have:((OD b s).D 60).st.t=Zw (OD b s).ts:=rfl;rw[this,Zv];have:((OD b s).ts.map λp=>(p.1,W3 sh p.2))=OE:=by kernel_rfl
  rw[this]
 have hb:Tryz.f206.body=some BY:=by kernel_rfl
 refine TV.AY (f:=206) (fi:=Tryz.f206) (c:=BY) (first:=[]) (caps:=[.ptr 1700070 0 0]) (R:=λe bw=>oVa b s r e bw) ?_ Tryz.func206 hb (by kernel_rfl) (by kernel_rfl) ?_ (λi=>?_) ?_ ?_
 ·show some ((λi=>W3 sh (((OD b s).D 60).st.t i)) 24)=_;rw[ht];rfl
 ·intro bq k hk;obtain⟨q,h1,rfl,_⟩:=Ys (show Qm (OD b s).bs bq=some k from hk);show ((((OD b s).us).contains q.1 || Qw q.1))=true;simp only[Ext.us,wi,wz,zM];exact .inl (zP.2 ⟨q,h1,rfl⟩)
 ·have:=congrFun ht i;rw[show W3 sh (((OD b s).D 60).st.t i)=Zw OE i from this];exact L5 (by rfl) i
 ·have hbb:QZ ((OD b s).D 60).st.b=Qm (Ps b s):=bVa b s;rw[ht,hbb];have e:max Tryz.f206.ntmps (([]:List V).length+1+[V.ptr 1700070 0 0].length)=17:=by kernel_rfl
  rw[e];exact Qy8 b s h
 ·intro e b' ho;rcases r with r|r
  ·obtain⟨rfl,rfl⟩:=ho;exact⟨.inl rfl,Qm (OD b s).bs,(bVa b s).symm,Yu (ts:=(OD b s).ts) (bs:=(OD b s).bs) (us:=(OD b s).us) (by rfl) (by rfl),rfl,W6 (VaE b (.inl r)) (by rfl) rfl ⟨by rfl,by rfl⟩⟩
  ·obtain⟨rfl,rfl⟩:=ho;exact⟨.inr (.inl rfl),Qm (OD b s).bs,(bVa b s).symm,Yu (ts:=(OD b s).ts) (bs:=(OD b s).bs) (us:=(OD b s).us) (by rfl) (by rfl),rfl,W6 (VaE b (.inr ())) (by rfl) rfl ⟨by rfl,by rfl⟩⟩
def Quc(b:Z7)(s:ze):Sub Tryz.prog GG (Unit⊕Unit):=
 ⟨.rangeFunc (.tmp 24) #[25] qW (I3 Pm),60,OD b s,mVa b s,VaE b ,λ_ h=>Qzt b s h⟩
def Pc(y:Int)(s:ze):List (Nat×Qd):=(Xc [] y s).bs
theorem Qwe(y:Int)(s:ze)(v:Int):Y3 Tryz.prog GG [2,5,6,20,21] 41 qD (Xc ((21,.int .u8 v) :: OA) y s) (.done ():TT Unit) (λ_=>Xc [(2,.ptr 1000002 0 0),(5,.ptr 1000005 0 0),(6,.int .u8 v)] y s):=by unfold Y3;kernel_rfl
theorem Qel(y:Int)(s:ze)(v:Int):(Xc ((21,.int .u8 v) :: OA) y s |>.D 41).st=Ks (E6 41 (Zw OA) (Qm (Pc y s))) ([21].zip [.int .u8 v]):=by
 rw[W1 (by rfl)];exact(Uu 41 OA _ 21 (.int .u8 v)).symm
theorem Qdc(y:Int)(s:ze)(v:Int){r:Int}(hb:(VA y s v).run=some r) :
  JT Tryz.prog GG 41 (Zw OA) [21] qD (I3 Pa) (Qm (Pc y s)) [.int .u8 v] (λe b'=>e=.normal/\b'=Qm (Pc r s)):=by
 refine⟨((Xc [(2,.ptr 1000002 0 0),(5,.ptr 1000005 0 0),(6,.int .u8 v)] y s).D 41).st,?_,?_⟩
 ·have h:=(Qwe y s v).tv Z1 (r:=()) rfl (by rfl);rw[Qel] at h;exact h
 ·refine((Qxg y s v).tv Z1 hb (by rfl)).mono λe s' hg=>?_;obtain⟨rfl,g⟩:=hg;refine⟨_,41,⟨rfl,rfl⟩,?_⟩;rw[W1 (by rfl)] at g;exact g
theorem Qdb(y:Int)(s:ze)(v:Int)(hb:(VX y s v).run=some ()) :
  JT Tryz.prog GG 41 (Zw OA) [21] qD (I3 Pa) (Qm (Pc y s)) [.int .u8 v] (λe b'=>e=.ret/\b'=Qm (Pc y s)):=by
 refine⟨((Xc [(2,.ptr 1000002 0 0),(5,.ptr 1000005 0 0),(6,.int .u8 v)] y s).D 41).st,?_,?_⟩
 ·have h:=(Qwe y s v).tv Z1 (r:=()) rfl (by rfl);rw[Qel] at h;exact h
 ·refine((Qxf y s v).tv Z1 hb (by rfl)).mono λe s' hg=>?_;obtain⟨rfl,g⟩:=hg;refine⟨_,41,⟨rfl,rfl⟩,?_⟩;rw[W1 (by rfl)] at g;exact g
section
variable (l:Nat) (y:Int) (s:ze) (i:Int)
def Fit:List (Nat×V):=[(0,.QP l),(1,.ptr 1700070 0 0),(3,.int .i64 i)]
def FiC:Ext:=Xc (Fit l i) y s
def FiD(r:Option Int):Ext:=match r with
 | some c=>Xc (Fit l i++[(8,.bool true),(9,.QP l),(12,.int .u8 c)]) y s
 | none=>Xc (Fit l i++[(8,.bool false)]) y s
theorem Qxp:Y3 Tryz.prog GG [0,1,3] 17 (cL BY) (Xc [(0,.QP l),(1,.ptr 1700070 0 0)] y s) (.done ():TT Unit) (λ_=>FiC l y s 0):=by unfold Y3;kernel_rfl
theorem Qxr:K5 Tryz.prog GG [0,1,3,8,9,12] 17 1 pK 9 (FiC l y s i) (VI s i) (FiD l y s i):=by unfold K5;kernel_rfl
theorem Qxn:Y3 Tryz.prog GG [0,1,3] 17 aR1 (FiC l y s i) (.done ():TT Unit) (λ_=>FiC l y s (Q0 (i+1))):=by unfold Y3;kernel_rfl
end
def MO(s:ze)(x:Int×Int):Option ((Int×Int)⊕(Int⊕Unit)):=
 match (VI s x.2).run with
 | none=>none
 | some none=>some (.inr (.inl x.1))
 | some (some c)=>match (VA x.1 s c).run with
  | some y=>some (.inl (y,Q0 (x.2+1)))
  | none=>match (VX x.1 s c).run with
   | some _=>some (.inr (.inr ()))
   | none=>none
def mFi(y:Int)(s:ze):Option (Int⊕Unit):=I0 (MO s) Yv (y,0)
def yFi:YL:=⟨41,Zw OA,#[21],qD,I3 Pa⟩
def oFi(s:ze):(Int⊕Unit)->Exit->(zj)->Prop
 | .inl r,e,bw=>e=.normal/\bw=Qm (Pc r s)
 | .inr _,e,bw=>e=.ret/\∃r,bw=Qm (Pc r s)
theorem Qyz(y:Int)(s:ze){r:Int⊕Unit}(h:mFi y s=some r) :
    UM Tryz.prog GG BY 17 (λl=>[.QP l,.ptr 1700070 0 0]) (Qm (Pc y s)) yFi (oFi s r):=by
  refine UM.of λl=>?_;have e0:U3 17 [.QP l,.ptr 1700070 0 0] (Qm (Pc y s))=((Xc (U5 [.QP l,.ptr 1700070 0 0]) y s).D 17).st:=(B9 (x:=Xc (U5 [.QP l,.ptr 1700070 0 0]) y s) (by rfl) (by rfl) 17).symm;rw[e0,eAl];show YT _ _ _ _ _ ⟨.normal,((Xc [(0,.QP l),(1,.ptr 1700070 0 0)] y s).D 17).st⟩ _;refine YT.seq (YT.piece (Qxp l y s) Z1 rfl (by rfl) λq g=>?_);show YT _ _ _ _ _ _ _;refine YT.XI g (YT.block ?_);refine YT.loop (λm st=>st.x=.normal/\∃z:Int×Int,QU GG st.st ((FiC l z.1 s z.2).D 17).st/\I0 (MO s) m z=some r) (λm st hI=>?_) (n:=Yv) ⟨rfl,(y,0),QU.same _,h⟩;obtain⟨x,st⟩:=st;obtain⟨rfl,⟨v,i⟩,g,hit⟩:=hI;refine YT.XI g ?_;cases m with
  | zero=>simp[I0] at hit
  | succ m=>
    rw[ZH] at hit;rw[eAL];cases h4:(VI s i).run with
    | none => have hs0 : MO s (v, i) = none := by unfold MO; simp only [h4]
              rw[hs0] at hit;simp at hit
    | some c=>
    refine YT.seq (YT.seq (YT.region ?_));show J3 _ _ _ _ _ ([0,1,2,3,4,5,6,7,8]++[9,10]) _ _;refine J3.tv ((Qxr l v s i).tv Z1 h4 (by cases c<;>rfl)) λe st hq'=>⟨by rw[hq'.1];cases c<;>rfl,J3.XI hq'.2 ?_⟩;cases c with
    | none=>
      have hs0:MO s (v,i)=some (.inr (.inl v)):=by unfold MO;simp only[h4]
      rw[hs0] at hit;obtain rfl:_=r:=wu hit;show J3 _ _ _ _ _ _ ⟨.normal,((Xc (Fit l i++[(8,.bool false)]) v s).D 17).st⟩ _;refine J3.step rfl (J3.step rfl (J3.nil ?_));show YT _ _ _ _ _ _ _;refine YT.cond (b:=false) rfl (YT.exit ?_);refine⟨.inl rfl,17,Zw (Fit l i++[(8,V.bool false),(14,V.bool false)]),Qm (Pc v s),?_,rfl,rfl⟩;rw[show E6 17 (Zw (Fit l i++[(8,V.bool false),(14,V.bool false)])) (Qm (Pc v s))=((Xc (Fit l i++[(8,V.bool false),(14,V.bool false)]) v s).D 17).st from(W1 (x:=Xc (Fit l i++[(8,V.bool false),(14,V.bool false)]) v s) (by rfl) 17).symm];exact W6 (Xc (Fit l i++[(8,V.bool false),(14,V.bool false)]) v s) (by rfl) rfl ⟨by rfl,by rfl⟩
    | some c=>
      show J3 _ _ _ _ _ _ ⟨.normal,((Xc (Fit l i++[(8,.bool true),(9,.QP l),(12,.int .u8 c)]) v s).D 17).st⟩ _;have es:=W1 (x:=Xc (Fit l i++[(8,V.bool true),(9,V.QP l),(12,V.int .u8 c)]) v s) (by rfl) 17;rw[es];cases h5:(VA v s c).run with
      | some v2=>
        have hs0:MO s (v,i)=some (.inl (v2,Q0 (i+1))):=by unfold MO;simp only[h4,h5]
        rw[hs0] at hit;refine J3.KS (hi:=rfl) rfl rfl rfl rfl rfl rfl rfl (λi=>L5 (by rfl) i) (λi=>L5 (by rfl) i) (λp hp=>?_) rfl (Qdc v s c h5) (λe b' h=>.inl h.1) λe b' h=>?_
        · have:p∈[21]:=hp;simp at this;subst this;exact(by decide:21 < 41)
        obtain⟨rfl,rfl⟩:=h;refine J3.step rfl (J3.nil ?_);show YT _ _ _ _ _ _ _;refine YT.cond (b:=true) rfl (YT.skip ?_);show YT _ _ _ _ _ _ _;refine YT.seq (YT.block (YT.skip ?_));show YT _ _ _ _ _ _ _;refine YT.XI (st':=((FiC l v2 s i).D 17).st) (W6 (FiC l v2 s i) (by rfl) rfl ⟨by rfl,by rfl⟩) ?_;refine YT.piece (Qxn l v2 s i) Z1 rfl (by rfl) λq g=>?_;exact⟨m,Nat.lt_succ_self m,rfl,(v2,Q0 (i+1)),g,hit⟩
      | none=>
      cases h6:(VX v s c).run with
      | none => have hs0 : MO s (v, i) = none := by unfold MO; simp only [h4, h5, h6]
                rw[hs0] at hit;simp at hit
      | some u=>
        have hs0:MO s (v,i)=some (.inr (.inr ())):=by unfold MO;simp only[h4,h5,h6]
        rw[hs0] at hit;obtain rfl:_=r:=wu hit;refine J3.KS (hi:=rfl) rfl rfl rfl rfl rfl rfl rfl (λi=>L5 (by rfl) i) (λi=>L5 (by rfl) i) (λp hp=>?_) rfl (Qdb v s c h6) (λe b' h=>.inr (.inl h.1)) λe b' h=>?_
        · have:p∈[21]:=hp;simp at this;subst this;exact(by decide:21 < 41)
        obtain⟨rfl,rfl⟩:=h;refine J3.step rfl (J3.nil ?_);show YT _ _ _ _ _ _ _;refine YT.cond (b:=false) rfl (YT.exit ?_);refine⟨.inl rfl,17,Zw (Fit l i++[(8,V.bool true),(9,V.QP l),(12,V.int .u8 c),(13,V.bool false),(14,V.bool false)]),Qm (Pc v s),?_,rfl,v,rfl⟩;rw[show E6 17 (Zw (Fit l i++[(8,V.bool true),(9,V.QP l),(12,V.int .u8 c),(13,V.bool false),(14,V.bool false)])) (Qm (Pc v s))=((Xc (Fit l i++[(8,V.bool true),(9,V.QP l),(12,V.int .u8 c),(13,V.bool false),(14,V.bool false)]) v s).D 17).st from(W1 (x:=Xc (Fit l i++[(8,V.bool true),(9,V.QP l),(12,V.int .u8 c),(13,V.bool false),(14,V.bool false)]) v s) (by rfl) 17).symm];exact W6 (Xc (Fit l i++[(8,V.bool true),(9,V.QP l),(12,V.int .u8 c),(13,V.bool false),(14,V.bool false)]) v s) (by rfl) rfl ⟨by rfl,by rfl⟩
def OI(y:Int)(s:ze):Ext:=Ext.of .normal [(2,.ptr 2 0 0),(5,.ptr 5 0 0),(20,.fn 206 [] [.ptr 700070 0 0])] [(2,⟨1,true,[[.bool false]]⟩),(5,⟨1,true,[[.i y]]⟩),(700070,⟨1,true,[[.str s]]⟩)] [] (by rfl)
def FiE:(Int⊕Unit)->Ext
 | .inl r=>Ext.of .normal [(2,.ptr 2 0 0),(5,.ptr 5 0 0)] [(2,⟨1,true,[[.bool false]]⟩),(5,⟨1,true,[[.i r]]⟩)] [] (by rfl)
 | .inr _=>Ext.of .ret [(2,.ptr 2 0 0)] [(2,⟨1,true,[[.bool false]]⟩)] [] (by rfl)
theorem bFi(y:Int)(s:ze):QZ (Qm (OI y s).bs)=Qm (Pc y s):=by
 rw[UO];have:((OI y s).bs.map λp=>(sh p.1,p.2.Qb sh))=Pc y s:=by kernel_rfl
 rw[this]
theorem Qy1(y:Int)(s:ze){r:Int⊕Unit}(h:mFi y s=some r) :
  TV Tryz.prog GG (.rangeFunc (.tmp 20) #[21] qD (I3 Pa)) ((OI y s).D 41).st (λe st=>e=(FiE r).ex/\QU GG st ((FiE r).D 41).st):=by
 have ht:(λi=>W3 sh (((OI y s).D 41).st.t i))=Zw OA:=by
  have:((OI y s).D 41).st.t=Zw (OI y s).ts:=rfl;rw[this,Zv];have:((OI y s).ts.map λp=>(p.1,W3 sh p.2))=OA:=by kernel_rfl
  rw[this]
 have hb:Tryz.f206.body=some BY:=by kernel_rfl
 refine TV.AY (f:=206) (fi:=Tryz.f206) (c:=BY) (first:=[]) (caps:=[.ptr 1700070 0 0]) (R:=λe bw=>oFi s r e bw) ?_ Tryz.func206 hb (by kernel_rfl) (by kernel_rfl) ?_ (λi=>?_) ?_ ?_
 ·show some ((λi=>W3 sh (((OI y s).D 41).st.t i)) 20)=_;rw[ht];rfl
 ·intro bq k hk;obtain⟨q,h1,rfl,_⟩:=Ys (show Qm (OI y s).bs bq=some k from hk);show ((((OI y s).us).contains q.1 || Qw q.1))=true;simp only[Ext.us,wi,wz,zM];exact .inl (zP.2 ⟨q,h1,rfl⟩)
 ·have:=congrFun ht i;rw[show W3 sh (((OI y s).D 41).st.t i)=Zw OA i from this];exact L5 (by rfl) i
 ·have hbb:QZ ((OI y s).D 41).st.b=Qm (Pc y s):=bFi y s;rw[ht,hbb];have e:max Tryz.f206.ntmps (([]:List V).length+1+[V.ptr 1700070 0 0].length)=17:=by kernel_rfl
  rw[e];exact Qyz y s h
 ·intro e b' ho;rcases r with r|r
  ·obtain⟨rfl,rfl⟩:=ho;exact⟨.inl rfl,Qm (OI r s).bs,(bFi r s).symm,Yu (ts:=(OI y s).ts) (bs:=(OI r s).bs) (us:=(OI y s).us) (by rfl) (by rfl),rfl,W6 (FiE (.inl r)) (by rfl) rfl ⟨by rfl,by rfl⟩⟩
  ·obtain⟨rfl,r,rfl⟩:=ho;exact⟨.inr (.inl rfl),Qm (OI r s).bs,(bFi r s).symm,Yu (ts:=(OI y s).ts) (bs:=(OI r s).bs) (us:=(OI y s).us) (by rfl) (by rfl),rfl,W6 (FiE (.inr ())) (by rfl) rfl ⟨by rfl,by rfl⟩⟩
def jJ(y:Int)(s:ze):Sub Tryz.prog GG (Int⊕Unit):=
 ⟨.rangeFunc (.tmp 20) #[21] qD (I3 Pa),41,OI y s,mFi y s,FiE ,λ_ h=>Qy1 y s h⟩
def Qde :Sp (Unit):=.Zk 201 [] Z1 Tryz.func201 rfl (λ_=>rfl) (show Jf Pg GG [0,2,3,4,5,9,16] Tryz.f201 [.str (bs [46,45])] (Ext.of .normal (U5 [.str (bs [46,45])]) [] [] (by rfl)) (.tt (.ff (.tt (.ff (.ff (.done ()))))):TT (Unit)) (λ(r:Unit)=>.Qc [.agg (X9 45 (.bool false) (W0 [.bool true,.bool true] (X9 209 (.bool false) []))),.bool true]) (λ(r:Unit)=>Ext.of .normal [] [] [] (by rfl)) by unfold Jf;kernel_rfl)
def Qk4(p0:Int):TT (Bool):=.Ko 1004 p0 [0,1,2,3,4,5,6,7,8,9,10,11,12,13,14,15,16,17,18,19,20,21,22,23,24,25,26,27,28,29,30,31,32,33,34,35,36,37,38,39,40,41,42,43,44,45,46,47,48,49,50,51,52,53,54,55,56,57,58,59,60,61,62,63,64,65,66,67,68,69,70,71,72,73,74,75,76,77,78,79,80,81,82,83,84,85,86,87,88,89,90,91,92,93,94,95,96,97,98,99,100,101,102,103,104,105,106,107,108,109,110,111,112,113,114,115,116,117,118,119,120,121,122,123,124,125,126,127,128,129,130,131,132,133,134,135,136,137,138,139,140,141,142,143,144,145,146,147,148,149,150,151,152,153,154,155,156,157,158,159,160,161,162,163,164,165,166,167,168,169,170,171,172,173,174,175,176,177,178,179,180,181,182,183,184,185,186,187,188,189,190,191,192,193,194,195,196,197,198,199,200,201,202,203,204,205,206,207,208,209,210,211,212,213,214,215,216,217,218,219,220,221,222,223,224,225,226,227,228,229,230,231,232,233,234,235,236,237,238,239,240,241,242,243,244,245,246,247,248,249,250,251,252,253,254,255] (λv=>bif [45,46].contains v then .done true else .done false)
def oN(p0:Int):Sp (Bool):=oF [0,1,4] Tryz.func243 [.snap (X9 45 (.bool false) (W0 [.bool true,.bool true] (X9 209 (.bool false) []))),.int .u8 p0] (Qk4 p0) (λr=>.bool r)
def Qkl(p0:ze):TT (ze):=.bind 1 (.lp (λ(l416:ze)=>Ext.l .normal [(0,.str l416),(1,.snap (X9 45 (.bool false) (W0 [.bool true,.bool true] (X9 209 (.bool false) [])))),(4,.str zg)] []) (λl416=>.br 0 (decide ((0:Int) < (l416.size:Int))) (.Qa 2006 (decide (0<=(Q0 ((l416.size:Int) - 1))/\(Q0 ((l416.size:Int) - 1)) < (l416.size:Int))) (.cl 2007 (oN (QQ l416 (Q0 ((l416.size:Int) - 1)))) λr417=>.br 0 (!r417) (.done (.inr l416)) (.Qa 3005 (decide (0<=(Q0 ((l416.size:Int) - 1)))&&decide ((Q0 ((l416.size:Int) - 1))<=(l416.size:Int))) (.done (.inl (l416.extract 0 ((Q0 ((l416.size:Int) - 1)).toNat))))))) (.done (.inr l416))) p0) (λ(e418:ze)=>Ext.l (.exit 0) [(0,.str e418),(4,.str zg)] []) (λe418=>.done e418)
def tC(p0:ze):Sp (ze):=oF [0,1,4,7,15] Tryz.func203 [.str p0,.snap (X9 45 (.bool false) (W0 [.bool true,.bool true] (X9 209 (.bool false) [])))] (Qkl p0) (λr=>.str r)
def Qkf(p0:ze):TT (ze):=.bind 1 (.lp (λ(l422:ze)=>Ext.l .normal [(0,.str l422),(1,.snap (X9 45 (.bool false) (W0 [.bool true,.bool true] (X9 209 (.bool false) [])))),(4,.str zg)] []) (λl422=>.br 0 (decide ((0:Int) < (l422.size:Int))) (.Qa 2003 (decide (0<=(0:Int)/\(0:Int) < (l422.size:Int))) (.cl 2004 (oN (QQ l422 0)) λr423=>.br 0 (!r423) (.done (.inr l422)) (.Qa 3002 (decide (0<=(1:Int))&&decide ((1:Int)<=(l422.size:Int))) (.done (.inl (l422.extract 1 l422.size)))))) (.done (.inr l422))) p0) (λ(e424:ze)=>Ext.l (.exit 0) [(0,.str e424),(4,.str zg)] []) (λe424=>.done e424)
def tT(p0:ze):Sp (ze):=oF [0,1,4,7,12] Tryz.func202 [.str p0,.snap (X9 45 (.bool false) (W0 [.bool true,.bool true] (X9 209 (.bool false) [])))] (Qkf p0) (λr=>.str r)
def Qmk(p0:ze):TT (ze):=.Zz 1 [12] (.an 1004 (decide (p0=zg)) (.done true)) zn λc412=>.br 0 c412 (.done p0) (.ff (.cl 5002 Qde λr413=>.tt (.view 7002 (tC p0) [] λr419=>.view 7003 (tT r419) [] λr425=>.done r425)))
def vB(p0:ze):Sp (ze):=oF [0,1,4,5,6,12,21,34] Tryz.func149 [.str p0,.str (bs [46,45])] (Qmk p0) (λr=>.str r)
def vP(p0:ze):Sp (Unit):=.Zk 150 [] Z1 Tryz.func150 rfl (λ_=>rfl) (show Jf Pg GG [0,1,2] Tryz.f150 [.str p0] (Ext.of .normal (U5 [.str p0]) [] [] (by rfl)) (.done ():TT (Unit)) (λ(r:Unit)=>.fn 206 [] [.ptr 1 0 0]) (λ(r:Unit)=>Ext.of .normal [] [(1,⟨1,true,[[.str p0]]⟩)] [] (by rfl)) by unfold Jf;kernel_rfl)
def sR(p0:Z7):TT (Bool):=.Zz 1 [21] (.oR 1006 (decide ((p0.fy.size:Int) < 1)) (.oR 1012 (decide ((32:Int) < (p0.fy.size:Int))) (.cl 1014 (vB p0.fy) λr426=>.done (!decide (r426=p0.fy))))) zn λc427=>.br 0 c427 (.done false) (.call 3003 (vP p0.fy) [] [(1,500011)] λr428=>.gh 1 (.Qb 500011 700070) (.EI (Quc p0 p0.fy) (λr429=>.an 7006 ((p0.fJ.size:Int)==32) (.an 7011 (decide ((0:Int)<=p0.fI)) (.an 7018 (decide (p0.fI<=p0.fF)) (.an 7023 (decide (p0.fF<=1099511627776)) (.an 7028 (decide ((0:Int)<=p0.fQ)) (.done (decide (p0.fQ<=281474976710655)))))))) λr430=>.done false))
def OR(p0:Z7):Sp (Bool):=oF [0,1,2,3,21,24,25,28] Tryz.func91 [.agg [.str p0.fy,.str p0.fJ,.i p0.fI,.i p0.fF,.i p0.fQ]] (sR p0) (λr=>.bool r)
def g99(p0 p1:ze):TT (Bool):=.Zz 1 [4] (.an 1007 (decide ((p1.size:Int)<=(p0.size:Int))) (.Qa 1010 (decide (0<=(p1.size:Int))&&decide ((p1.size:Int)<=(p0.size:Int))) (.done (decide ((p0.extract 0 ((p1.size:Int).toNat))=p1))))) zn λc431=>.done c431
def s99(p0 p1:ze):Sp (Bool):=oF [0,1,4] Tryz.func99 [.str p0,.str p1] (g99 p0 p1) (λr=>.bool r)
def Qk1(p0 p1:ze):TT (ze×Bool):=.cl 1003 (s99 p0 p1) λr432=>.br 0 (!r432) (.done (p0,false)) (.Qa 3004 (decide (0<=(p1.size:Int))&&decide ((p1.size:Int)<=(p0.size:Int))) (.done ((p0.extract ((p1.size:Int).toNat) p0.size),true)))
def tW(p0 p1:ze):Sp (ze×Bool):=oF [0,1,4,5,9] Tryz.func253 [.str p0,.str p1] (Qk1 p0 p1) (λr=>.Qc [.str r.1,.bool r.2])
def Qkm(p0 p1:ze):TT (ze×Bool):=.cl 1003 (tW p0 p1) λr433=>.done (r433.1,r433.2)
def tO(p0 p1:ze):Sp (ze×Bool):=oF [0,1,4,5] Tryz.func219 [.str p0,.str p1] (Qkm p0 p1) (λr=>.Qc [.str r.1,.bool r.2])
def eC(p0:ze):TT (Bool):=.cl 1002 (tO p0 (bs [115,104,97,45,50,53,54,32])) λr434=>.Zz 2 [18] (.oR 2004 (!r434.2) (.done ((r434.1.size:Int) != 95))) zn λc435=>.br 0 c435 (.done false) (.call 5002 (vP r434.1) [] [(1,500012)] λr436=>.gh 1 (.Qb 500012 700070) (.EI (jJ 0 r434.1) (λr437=>.done true) λr438=>.done false))
def Ff(p0:ze):Sp (Bool):=oF [0,2,3,4,5,6,18,20,21,38] Tryz.func174 [.str p0] (eC p0) (λr=>.bool r)
end Go.Proofs.YtjdieimefebnfaaGreatDoor
namespace Go.Proofs
open Go.Shelf
def Tryz.jnR:Go.Shelf.Ren:=⟨fun|105=>23|212=>50|99=>51|165=>52|166=>53|170=>54|169=>55|263=>97|264=>98|206=>99|240=>100|241=>101|276=>157|277=>158|156=>152|n=>n,
 fun|9=>9|3=>3|4=>4|20=>20|0=>0|46=>52|109=>111|5=>5|72=>116|76=>119|51=>163|146=>164|53=>137|148=>166|70=>114|37=>57|75=>118|127=>168|164=>219|80=>122|31=>40|n=>n,λn=>n⟩
theorem Tryz.Kk:Lays.n105 Tryz.prog Tryz.jnR where
 mixed:=by kernel_rfl
 f99:=Tryz.func51.trans (congrArg some (by kernel_rfl))
 f105:=Tryz.func23.trans (congrArg some (by kernel_rfl))
 f165:=Tryz.func52.trans (congrArg some (by kernel_rfl))
 f166:=Tryz.func53.trans (congrArg some (by kernel_rfl))
 f169:=Tryz.func55.trans (congrArg some (by kernel_rfl))
 f170:=Tryz.func54.trans (congrArg some (by kernel_rfl))
 f206:=Tryz.func99.trans (congrArg some (by kernel_rfl))
 f212:=Tryz.func50.trans (congrArg some (by kernel_rfl))
 f240:=Tryz.func100.trans (congrArg some (by kernel_rfl))
 f241:=Tryz.func101.trans (congrArg some (by kernel_rfl))
 f263:=Tryz.func97.trans (congrArg some (by kernel_rfl))
 f264:=Tryz.func98.trans (congrArg some (by kernel_rfl))
 f276:=Tryz.func157.trans (congrArg some (by kernel_rfl))
 f277:=Tryz.func158.trans (congrArg some (by kernel_rfl))
 t0:=Tryz.underlying0
 a0:=Tryz.isAgg0
 z0:=Tryz.sizeOf0
 v0:=Tryz.zeroValue0
 t3:=Tryz.underlying3
 a3:=Tryz.isAgg3
 z3:=Tryz.sizeOf3
 v3:=Tryz.zeroValue3
 t4:=Tryz.underlying4
 a4:=Tryz.isAgg4
 z4:=Tryz.sizeOf4
 v4:=Tryz.zeroValue4
 t5:=Tryz.underlying5
 a5:=Tryz.isAgg5
 z5:=Tryz.sizeOf5
 v5:=Tryz.zeroValue5
 t9:=Tryz.underlying9
 a9:=Tryz.isAgg9
 z9:=Tryz.sizeOf9
 v9:=Tryz.zeroValue9
 t20:=Tryz.underlying20
 a20:=Tryz.isAgg20
 z20:=Tryz.sizeOf20
 v20:=Tryz.zeroValue20
 t37:=Tryz.underlying57
 a37:=Tryz.isAgg57
 z37:=Tryz.sizeOf57
 v37:=Tryz.zeroValue57
 t46:=Tryz.underlying52
 a46:=Tryz.isAgg52
 z46:=Tryz.sizeOf52
 v46:=Tryz.zeroValue52
 t51:=Tryz.underlying163
 a51:=Tryz.isAgg163
 z51:=Tryz.sizeOf163
 v51:=Tryz.zeroValue163
 t53:=Tryz.underlying137
 a53:=Tryz.isAgg137
 z53:=Tryz.sizeOf137
 v53:=Tryz.zeroValue137
 t70:=Tryz.underlying114
 a70:=Tryz.isAgg114
 z70:=Tryz.sizeOf114
 v70:=Tryz.zeroValue114
 t72:=Tryz.underlying116
 a72:=Tryz.isAgg116
 z72:=Tryz.sizeOf116
 v72:=Tryz.zeroValue116
 t75:=Tryz.underlying118
 a75:=Tryz.isAgg118
 z75:=Tryz.sizeOf118
 v75:=Tryz.zeroValue118
 t76:=Tryz.underlying119
 a76:=Tryz.isAgg119
 z76:=Tryz.sizeOf119
 v76:=Tryz.zeroValue119
 t109:=Tryz.underlying111
 a109:=Tryz.isAgg111
 z109:=Tryz.sizeOf111
 v109:=Tryz.zeroValue111
 t127:=Tryz.underlying168
 a127:=Tryz.isAgg168
 z127:=Tryz.sizeOf168
 v127:=Tryz.zeroValue168
 t146:=Tryz.underlying164
 a146:=Tryz.isAgg164
 z146:=Tryz.sizeOf164
 v146:=Tryz.zeroValue164
 t148:=Tryz.underlying166
 a148:=Tryz.isAgg166
 z148:=Tryz.sizeOf166
 v148:=Tryz.zeroValue166
 t164:=Tryz.underlying219
 a164:=Tryz.isAgg219
 z164:=Tryz.sizeOf219
 v164:=Tryz.zeroValue219
theorem Tryz.Gy : Lays.n156 Tryz.prog Tryz.jnR := { Tryz.Kk with
 f156:=Tryz.func152.trans (congrArg some (by kernel_rfl))
 t31:=Tryz.underlying40
 a31:=Tryz.isAgg40
 z31:=Tryz.sizeOf40
 v31 := Tryz.zeroValue40 }
theorem Tryz.jnX:Builder.Extra Tryz.prog Tryz.jnR where
 sizeBuilder:=by kernel_rfl
 liesBuilder:=by kernel_rfl
 t5:=Tryz.Kk.t5
 a5:=Tryz.Kk.a5
 z5:=Tryz.Kk.z5
 v5:=Tryz.Kk.v5
 infoByte:=by kernel_rfl
 cellsByte:=by kernel_rfl
 sizeByte:=by kernel_rfl
 neB5:=by decide
end Go.Proofs
namespace Go.Proofs.YtjdieimefebnfaaGreatDoor
open Go Go.EV
theorem Tm{α:Type}{c:Bool}{x r:α}(h:(T.Qa (P:=Tryz.prog) (G:=GG) 0 c (.done x)).run=some r):c=true/\r=x:=by
 have e:(T.Qa (P:=Tryz.prog) (G:=GG) 0 c (.done x)).run=(bif c then some x else none):=rfl;grind
def Qqa(s:ze)(n:Nat):ze:=⟨(Lib.repeatL s.data.toList n).toArray⟩
def g23(p0:ze)(p1:Int):TT ze:=.Qa 0 (decide (0<=p1/\p1<=9223372036854775807/\p0.size * p1.toNat<=140737488355328)) (.done (Qqa p0 p1.toNat))
theorem k23(p0:ze)(p1:Int)(r:ze)(h:(g23 p0 p1).run=some r):QR Tryz.prog GG 23 [.str p0,.int .i64 p1] (Qm []) (.str r) (Qm []):=by
 obtain⟨h1,rfl⟩:=Tm h;have h1:=of_decide_eq_true h1;refine Hk (λγ w av hc=>?_) λ_ _ _ _=>.data (.str _);obtain⟨a,b,rfl,ha,hb⟩:=Py hc;obtain rfl:=ha.QE;obtain rfl:=hb.Qf;have e:(p1.toNat:Int)=p1:=by omega
 have:=Any.strings_Repeat Tryz.Kk Tryz.jnX p0 p1.toNat w (by omega) h1.2.2;rw[e] at this;exact this
def tA(p0:ze)(p1:Int):Sp ze:=⟨23,[.str p0,.int .i64 p1],[],(g23 p0 p1).run,λr=>.str r,λ_=>[],[],λ_ _ h=>by simp at h,λr h=>k23 p0 p1 r h⟩
theorem dW(l:List ze):(List.map Z8.c l).flatten=l.map V.str:=by
 induction l with
 | nil=>rfl
 | cons x l ih=>exact congrArg (V.str x :: ·) ih
def KM(l:List ze)(s:ze):ze:=⟨(Lib.join (l.map (·.data.toList)) s.data.toList).toArray⟩
def rK(p0:List ze)(p1:ze):TT ze:=.Qa 0 (decide (p0.length<=140737488355328/\(KM p0 p1).size<=140737488355328)) (.done (KM p0 p1))
theorem Qaw(p0:List ze)(p1:ze)(r:ze)(h:(rK p0 p1).run=some r):QR Tryz.prog GG 152 [.sl false 1 (List.map Z8.c p0),.str p1] (Qm []) (.str r) (Qm []):=by
 obtain⟨h1,rfl⟩:=Tm h;have h1:=of_decide_eq_true h1;refine Hk (λγ w av hc=>?_) λ_ _ _ _=>.data (.str _);obtain⟨a,b,rfl,ha,hb⟩:=Py hc;obtain rfl:=hb.QE;rcases ha.HB with⟨a,rfl,e⟩|⟨B,o,cap,vs,rfl,k1,k2,k3,k4⟩
 ·obtain rfl:p0=[]:=by simpa using e
  exact(Any.strings_Join_none Tryz.Gy Tryz.jnX a 0 p1 w).mono λe w' ⟨he,hw⟩=>⟨he,hw▸RowKit.Below.refl _ _⟩
 ·rw[dW] at k3 k4;rw[wO] at k1 ⊢;have hc:∀(j:Nat) x,p0[j]?=some x->w.cell? ⟨B,o+j,none⟩=some (.string x):=λj x hx=>by
   have e:(p0.map V.str)[j]?=some (V.str x):=by grind
   have h2:=(k3 j _ e).2;have h3:vs j=.string x:=Qz.QE (γ:=γ) (w:=w) (bs:=Qm []) (u:=Qw) (.data (k4 j _ e));rw[h3] at h2;exact h2
  by_cases h0:p0=[]
  ·subst h0;exact(Any.strings_Join_none Tryz.Gy Tryz.jnX _ cap p1 w).mono λe w' ⟨he,hw⟩=>⟨he,hw▸RowKit.Below.refl _ _⟩
  ·obtain⟨x,l,rfl⟩:=List.exists_cons_of_ne_nil h0;have hB:B < w.heap.size:=World.block_lt_of_cell? _ _ (hc 0 x rfl);refine Any.strings_Join Tryz.Gy Tryz.jnX B o cap (x :: l) p1 w hc hB h1.1 k1 ?_;grind [KM,ByteArray.size]
def Qdx(p0:List ze)(p1:ze):Sp ze:=⟨152,[Sl 1 Z8 p0,.str p1],[],(rK p0 p1).run,λr=>.str r,λ_=>[],[],λ_ _ h=>by simp at h,λr h=>Qaw p0 p1 r h⟩
def Qj0(p0 p1:Int):TT (ze):=.cl 1003 (tI p0 p1) λr440=>.done r440.1
def NU(p0 p1:Int):Sp (ze):=oF [0,1,4,5] Tryz.func194 [.i p0,.i p1] (Qj0 p0 p1) (λr=>.str r)
def Qmx(p0:Z7):TT (ze×Int):=.cl 1002 (OR p0) λr439=>.br 0 (!r439) (.done (zg,180)) (.cl 3003 (NU 6 p0.fQ) λr441=>.Qa 3004 (decide ((bs [102,100,1]).size+r441.size<=9223372036854775807)) (.cl 3007 (NU 6 p0.fI) λr442=>.Qa 3008 (decide (((bs [102,100,1])++r441).size+r442.size<=9223372036854775807)) (.cl 3011 (NU 6 p0.fF) λr443=>.Qa 3012 (decide ((((bs [102,100,1])++r441)++r442).size+r443.size<=9223372036854775807)) (.cl 3016 (NU 1 (p0.fy.size:Int)) λr444=>.Qa 3017 (decide (((((bs [102,100,1])++r441)++r442)++r443).size+r444.size<=9223372036854775807)) (.Qa 3020 (decide ((((((bs [102,100,1])++r441)++r442)++r443)++r444).size+p0.fy.size<=9223372036854775807)) (.Qa 3023 (decide (((((((bs [102,100,1])++r441)++r442)++r443)++r444)++p0.fy).size+p0.fJ.size<=9223372036854775807)) (.done ((((((((bs [102,100,1])++r441)++r442)++r443)++r444)++p0.fy)++p0.fJ),0))))))))
def uQ(p0:Z7):Sp (ze×Int):=oF [0,1,2,3,6] Tryz.func143 [.agg [.str p0.fy,.str p0.fJ,.i p0.fI,.i p0.fF,.i p0.fQ]] (Qmx p0) (λr=>.Qc [.str r.1,.i r.2])
noncomputable def qM:Code:=(cB (cR (cL (cR (cR (cR (cR (Tryz.f92.body.getD .skip))))))))
def iU:Code:=MS qM
def GL:List (Nat×V):=[(7,.ptr 1000007 0 0),(20,.fn 206 [] [.ptr 1700070 0 0])]
def PrL(y:(List ze))(s:ze):List (Nat×Qd):=[(1000007,⟨1,true,[[.ref 1900070 0 y.length]]⟩),(1700070,⟨1,true,[[.str s]]⟩)]
def GO(ts:List (Nat×V))(y:(List ze))(s:ze):Ext:=Ext.of .normal ts (PrL y s) [BT.of 1900070 Z8 1 y true] (by rfl)
def VD(y:(List ze))(s:ze)(v:Int):TT ((List ze)):=
 .Qa 6004 (decide (0<=(Qk (Int.tdiv v 16))/\(Qk (Int.tdiv v 16)) < ((bs [48,49,50,51,52,53,54,55,56,57,65,66,67,68,69,70]).size:Int))) (.Qa 6007 (decide (0<=(Int.tmod v 16)/\(Int.tmod v 16) < ((bs [48,49,50,51,52,53,54,55,56,57,65,66,67,68,69,70]).size:Int))) (.app 6011 Z8 y [(strOfNums [(QQ (bs [48,49,50,51,52,53,54,55,56,57,65,66,67,68,69,70]) (Qk (Int.tdiv v 16))),(QQ (bs [48,49,50,51,52,53,54,55,56,57,65,66,67,68,69,70]) (Int.tmod v 16))])] 16 false (by intro h;cases h) (.done (y++[(strOfNums [(QQ (bs [48,49,50,51,52,53,54,55,56,57,65,66,67,68,69,70]) (Qk (Int.tdiv v 16))),(QQ (bs [48,49,50,51,52,53,54,55,56,57,65,66,67,68,69,70]) (Int.tmod v 16))])]))))
theorem Qxx(y:(List ze))(s:ze)(v:Int):Y3 Tryz.prog GG [7,8] 36 (I3 qM) (GO [(7,.ptr 1000007 0 0),(8,.int .u8 v)] y s) (VD y s v) (λ(r:(List ze))=>Ext.of .normal [] [(1000007,⟨1,true,[[.ref 32 0 r.length]]⟩),(1700070,⟨1,true,[[.str s]]⟩)] [BT.of 32 Z8 1 r true] (by rfl)):=by unfold Y3;kernel_rfl
def qE(y:(List ze))(s:ze):List (Nat×Qd):=(GO [] y s).bs
theorem Qxd(y:(List ze))(s:ze)(v:Int):Y3 Tryz.prog GG [7,8,20,21] 36 iU (GO ((21,.int .u8 v) :: GL) y s) (.done ():TT Unit) (λ_=>GO [(7,.ptr 1000007 0 0),(8,.int .u8 v)] y s):=by unfold Y3;kernel_rfl
theorem Qiz(y:(List ze))(s:ze)(v:Int):(GO ((21,.int .u8 v) :: GL) y s |>.D 36).st=Ks (E6 36 (Zw GL) (Qm (qE y s))) ([21].zip [.int .u8 v]):=by
 rw[W1 (by rfl)];exact(Uu 36 GL _ 21 (.int .u8 v)).symm
theorem Qw7(s:ze){r:(List ze)}{g:St}(h:QU GG g ((Ext.of .normal [] [(1000007,⟨1,true,[[.ref 32 0 r.length]]⟩),(1700070,⟨1,true,[[.str s]]⟩)] [BT.of 32 Z8 1 r true] (by rfl)).D 36).st):QU GG g (E6 36 (λ_=>.undef) (Qm (qE r s))):=
 QU.trans h (QU.mob (lits:=[(1000007,⟨1,true,[[.ref 32 0 r.length]]⟩),(1700070,⟨1,true,[[.str s]]⟩)]) (rest:=[]) (kd:=(BT.of 32 Z8 1 r true).k) (d:=32) (m:=1900070) (n:=36) (by decide) (by decide) (by decide) (by show ([1000007,1700070,32]:List Nat).Nodup;decide) (Ty.data _ _) (λp hp=>by cases hp) (by rfl) (by rfl))
theorem Qds(y:(List ze))(s:ze)(v:Int){r:(List ze)}(hb:(VD y s v).run=some r) :
  JT Tryz.prog GG 36 (Zw GL) [21] iU (I3 qM) (Qm (qE y s)) [.int .u8 v] (λe b'=>e=.normal/\b'=Qm (qE r s)):=by
 refine⟨((GO [(7,.ptr 1000007 0 0),(8,.int .u8 v)] y s).D 36).st,?_,?_⟩
 ·have h:=(Qxd y s v).tv Z1 (r:=()) rfl (by rfl);rw[Qiz] at h;exact h
 ·refine((Qxx y s v).tv Z1 hb (by rfl)).mono λe s' hg=>?_;obtain⟨rfl,g⟩:=hg;exact⟨_,36,⟨rfl,rfl⟩,Qw7 s g⟩
section
variable (l:Nat) (y:(List ze)) (s:ze) (i:Int)
def iJ:List (Nat×V):=[(0,.QP l),(1,.ptr 1700070 0 0),(3,.int .i64 i)]
def PrC:Ext:=GO (iJ l i) y s
def PrD(r:Option Int):Ext:=match r with
 | some c=>GO (iJ l i++[(8,.bool true),(9,.QP l),(12,.int .u8 c)]) y s
 | none=>GO (iJ l i++[(8,.bool false)]) y s
theorem Qxo:Y3 Tryz.prog GG [0,1,3] 17 (cL BY) (GO [(0,.QP l),(1,.ptr 1700070 0 0)] y s) (.done ():TT Unit) (λ_=>PrC l y s 0):=by unfold Y3;kernel_rfl
theorem Qxi:K5 Tryz.prog GG [0,1,3,8,9,12] 17 1 pK 9 (PrC l y s i) (VI s i) (PrD l y s i):=by unfold K5;kernel_rfl
theorem Qxa:Y3 Tryz.prog GG [0,1,3] 17 aR1 (PrC l y s i) (.done ():TT Unit) (λ_=>PrC l y s (Q0 (i+1))):=by unfold Y3;kernel_rfl
end
def Mj(s:ze)(x:(List ze)×Int):Option (((List ze)×Int)⊕((List ze)⊕Unit)):=
 match (VI s x.2).run with
 | none=>none
 | some none=>some (.inr (.inl x.1))
 | some (some c)=>match (VD x.1 s c).run with
  | some y=>some (.inl (y,Q0 (x.2+1)))
  | none=>none
def mPr(y:(List ze))(s:ze):Option ((List ze)⊕Unit):=I0 (Mj s) Yv (y,0)
def yPr:YL:=⟨36,Zw GL,#[21],iU,I3 qM⟩
def oPr(s:ze):((List ze)⊕Unit)->Exit->(zj)->Prop
 | .inl r,e,bw=>e=.normal/\bw=Qm (qE r s)
 | .inr _,e,bw=>e=.ret/\∃r,bw=Qm (qE r s)
theorem Qyq(y:(List ze))(s:ze){r:(List ze)⊕Unit}(h:mPr y s=some r) :
    UM Tryz.prog GG BY 17 (λl=>[.QP l,.ptr 1700070 0 0]) (Qm (qE y s)) yPr (oPr s r):=by
  refine UM.of λl=>?_;have e0:U3 17 [.QP l,.ptr 1700070 0 0] (Qm (qE y s))=((GO (U5 [.QP l,.ptr 1700070 0 0]) y s).D 17).st:=(B9 (x:=GO (U5 [.QP l,.ptr 1700070 0 0]) y s) (by rfl) (by rfl) 17).symm;rw[e0,eAl];show YT _ _ _ _ _ ⟨.normal,((GO [(0,.QP l),(1,.ptr 1700070 0 0)] y s).D 17).st⟩ _;refine YT.seq (YT.piece (Qxo l y s) Z1 rfl (by rfl) λq g=>?_);show YT _ _ _ _ _ _ _;refine YT.XI g (YT.block ?_);refine YT.loop (λm st=>st.x=.normal/\∃z:(List ze)×Int,QU GG st.st ((PrC l z.1 s z.2).D 17).st/\I0 (Mj s) m z=some r) (λm st hI=>?_) (n:=Yv) ⟨rfl,(y,0),QU.same _,h⟩;obtain⟨x,st⟩:=st;obtain⟨rfl,⟨v,i⟩,g,hit⟩:=hI;refine YT.XI g ?_;cases m with
  | zero=>simp[I0] at hit
  | succ m=>
    rw[ZH] at hit;rw[eAL];cases h4:(VI s i).run with
    | none => have hs0 : Mj s (v, i) = none := by unfold Mj; simp only [h4]
              rw[hs0] at hit;simp at hit
    | some c=>
    refine YT.seq (YT.seq (YT.region ?_));show J3 _ _ _ _ _ ([0,1,2,3,4,5,6,7,8]++[9,10]) _ _;refine J3.tv ((Qxi l v s i).tv Z1 h4 (by cases c<;>rfl)) λe st hq'=>⟨by rw[hq'.1];cases c<;>rfl,J3.XI hq'.2 ?_⟩;cases c with
    | none=>
      have hs0:Mj s (v,i)=some (.inr (.inl v)):=by unfold Mj;simp only[h4]
      rw[hs0] at hit;obtain rfl:_=r:=wu hit;show J3 _ _ _ _ _ _ ⟨.normal,((GO (iJ l i++[(8,.bool false)]) v s).D 17).st⟩ _;refine J3.step rfl (J3.step rfl (J3.nil ?_));show YT _ _ _ _ _ _ _;refine YT.cond (b:=false) rfl (YT.exit ?_);refine⟨.inl rfl,17,Zw (iJ l i++[(8,V.bool false),(14,V.bool false)]),Qm (qE v s),?_,rfl,rfl⟩;rw[show E6 17 (Zw (iJ l i++[(8,V.bool false),(14,V.bool false)])) (Qm (qE v s))=((GO (iJ l i++[(8,V.bool false),(14,V.bool false)]) v s).D 17).st from(W1 (x:=GO (iJ l i++[(8,V.bool false),(14,V.bool false)]) v s) (by rfl) 17).symm];exact W6 (GO (iJ l i++[(8,V.bool false),(14,V.bool false)]) v s) (by rfl) rfl ⟨by rfl,by rfl⟩
    | some c=>
      show J3 _ _ _ _ _ _ ⟨.normal,((GO (iJ l i++[(8,.bool true),(9,.QP l),(12,.int .u8 c)]) v s).D 17).st⟩ _;have es:=W1 (x:=GO (iJ l i++[(8,V.bool true),(9,V.QP l),(12,V.int .u8 c)]) v s) (by rfl) 17;rw[es];cases h5:(VD v s c).run with
      | some v2=>
        have hs0:Mj s (v,i)=some (.inl (v2,Q0 (i+1))):=by unfold Mj;simp only[h4,h5]
        rw[hs0] at hit;refine J3.KS (hi:=rfl) rfl rfl rfl rfl rfl rfl rfl (λi=>L5 (by rfl) i) (λi=>L5 (by rfl) i) (λp hp=>?_) rfl (Qds v s c h5) (λe b' h=>.inl h.1) λe b' h=>?_
        · have:p∈[21]:=hp;simp at this;subst this;exact(by decide:21 < 36)
        obtain⟨rfl,rfl⟩:=h;refine J3.step rfl (J3.nil ?_);show YT _ _ _ _ _ _ _;refine YT.cond (b:=true) rfl (YT.skip ?_);show YT _ _ _ _ _ _ _;refine YT.seq (YT.block (YT.skip ?_));show YT _ _ _ _ _ _ _;refine YT.XI (st':=((PrC l v2 s i).D 17).st) (W6 (PrC l v2 s i) (by rfl) rfl ⟨by rfl,by rfl⟩) ?_;refine YT.piece (Qxa l v2 s i) Z1 rfl (by rfl) λq g=>?_;exact⟨m,Nat.lt_succ_self m,rfl,(v2,Q0 (i+1)),g,hit⟩
      | none=>
        have hs0:Mj s (v,i)=none:=by unfold Mj;simp only[h4,h5]
        rw[hs0] at hit;simp at hit
def LW(y:(List ze))(s:ze):Ext:=Ext.of .normal [(7,.ptr 7 0 0),(20,.fn 206 [] [.ptr 700070 0 0])] [(7,⟨1,true,[[.ref 900070 0 y.length]]⟩),(700070,⟨1,true,[[.str s]]⟩)] [BT.of 900070 Z8 1 y true] (by rfl)
def PrE:((List ze)⊕Unit)->Ext
 | .inl r=>Ext.of .normal [(7,.ptr 7 0 0)] [(7,⟨1,true,[[.ref 900070 0 r.length]]⟩)] [BT.of 900070 Z8 1 r true] (by rfl)
 | .inr _=>Ext.of .ret [] [] [] (by rfl)
theorem bPr(y:(List ze))(s:ze):QZ (Qm (LW y s).bs)=Qm (qE y s):=by
 rw[UO];have:((LW y s).bs.map λp=>(sh p.1,p.2.Qb sh))=qE y s:=by(simp only[LW,Ext.of,List.cons_append,List.nil_append,wE,List.map_nil,BT.of,Qd.Qb,BV]);kernel_rfl
 rw[this]
theorem Qy0(y:(List ze))(s:ze){r:(List ze)⊕Unit}(h:mPr y s=some r) :
  TV Tryz.prog GG (.rangeFunc (.tmp 20) #[21] iU (I3 qM)) ((LW y s).D 36).st (λe st=>e=(PrE r).ex/\QU GG st ((PrE r).D 36).st):=by
 have ht:(λi=>W3 sh (((LW y s).D 36).st.t i))=Zw GL:=by
  have:((LW y s).D 36).st.t=Zw (LW y s).ts:=rfl;rw[this,Zv];have:((LW y s).ts.map λp=>(p.1,W3 sh p.2))=GL:=by kernel_rfl
  rw[this]
 have hb:Tryz.f206.body=some BY:=by kernel_rfl
 refine TV.AY (f:=206) (fi:=Tryz.f206) (c:=BY) (first:=[]) (caps:=[.ptr 1700070 0 0]) (R:=λe bw=>oPr s r e bw) ?_ Tryz.func206 hb (by kernel_rfl) (by kernel_rfl) ?_ (λi=>?_) ?_ ?_
 ·show some ((λi=>W3 sh (((LW y s).D 36).st.t i)) 20)=_;rw[ht];rfl
 ·intro bq k hk;obtain⟨q,h1,rfl,_⟩:=Ys (show Qm (LW y s).bs bq=some k from hk);show ((((LW y s).us).contains q.1 || Qw q.1))=true;simp only[Ext.us,wi,wz,zM];exact .inl (zP.2 ⟨q,h1,rfl⟩)
 ·have:=congrFun ht i;rw[show W3 sh (((LW y s).D 36).st.t i)=Zw GL i from this];exact L5 (by rfl) i
 ·have hbb:QZ ((LW y s).D 36).st.b=Qm (qE y s):=bPr y s;rw[ht,hbb];have e:max Tryz.f206.ntmps (([]:List V).length+1+[V.ptr 1700070 0 0].length)=17:=by kernel_rfl
  rw[e];exact Qyq y s h
 ·intro e b' ho;rcases r with r|r
  ·obtain⟨rfl,rfl⟩:=ho;exact⟨.inl rfl,Qm (LW r s).bs,(bPr r s).symm,Lx (ts:=(LW y s).ts) (bs:=[(7,⟨1,true,[[.ref 900070 0 r.length]]⟩),(700070,⟨1,true,[[.str s]]⟩)]) (tb:=[BT.of 900070 Z8 1 r true]) (us:=(LW y s).us) (by rfl) (by rfl) (by rfl),rfl,W6 (PrE (.inl r)) (by rfl) rfl ⟨by rfl,by rfl⟩⟩
  ·obtain⟨rfl,r,rfl⟩:=ho;exact⟨.inr (.inl rfl),Qm (LW r s).bs,(bPr r s).symm,Lx (ts:=(LW y s).ts) (bs:=[(7,⟨1,true,[[.ref 900070 0 r.length]]⟩),(700070,⟨1,true,[[.str s]]⟩)]) (tb:=[BT.of 900070 Z8 1 r true]) (us:=(LW y s).us) (by rfl) (by rfl) (by rfl),rfl,W6 (PrE (.inr ())) (by rfl) rfl ⟨by rfl,by rfl⟩⟩
def Quv(y:(List ze))(s:ze):Sub Tryz.prog GG ((List ze)):=
 ⟨.rangeFunc (.tmp 20) #[21] iU (I3 qM),36,LW y s,(match mPr y s with|some (.inl r)=>some r|_=>none),λr=>PrE (.inl r),λr h=>Qy0 y s (r:=.inl r) (by
  cases hm:mPr y s with
  | none=>rw[hm] at h;cases h
  | some x=>
   rw[hm] at h;cases x with
   | inl x=>obtain rfl:=wu h;rfl
   | inr x=>cases h)⟩
def sN(p0:Z7):TT (ze):=.cl 1002 (uQ p0) λr445=>.cl 2002 (s95 r445.1) λr446=>.call 4002 (vP r446.1) [] [(1,500013)] λr447=>.gh 1 (.Qb 500013 700070) (.gh 1 (.KQ 900070 7 0 1) (.sub (Quv [] r446.1) λr448=>.view 7002 (Qdx r448 (bs [58])) [(Zb.o 900070 Z8 r448)] λr449=>.Qa 7003 (decide ((bs [115,104,97,45,50,53,54,32]).size+r449.size<=9223372036854775807)) (.done ((bs [115,104,97,45,50,53,54,32])++r449))))
def Cy(p0:Z7):Sp (ze):=oF [0,1,2,3,5,7,8,20,21] Tryz.func92 [.agg [.str p0.fy,.str p0.fJ,.i p0.fI,.i p0.fF,.i p0.fQ]] (sN p0) (λr=>.str r)
structure J7 where
 fh:Z7
 GB:U0
noncomputable def bH:Code:=Tryz.f46.body.getD .skip
def Qat(s:ze):TT (Unit):=
 .done ()
def yY(s:ze):Ext:=Ext.of .normal [(0,.str s)] [] [] (by rfl)
def Ny(s:ze):(Unit)->Ext:=λ(r:Unit)=>Ext.of .normal [(0,.str s),(2,.ptr 2 0 0),(3,.ptr 3 0 0)] [(2,⟨5,true,[[.str zg,.str zg,.i 0,.i 0,.i 0]]⟩),(3,⟨1,true,[[.i 0]]⟩)] [] (by rfl)
theorem Qa1(s:ze):Y3 Tryz.prog GG [0,2,3] 52 (cL bH) (yY s) (Qat s) (Ny s):=by unfold Y3;kernel_rfl
def Qyt(p0:Int):TT ((Unit)⊕(Unit)):=.br 0 (p0 != 0) (.Qq 1002 (Qh.Zu 207 (.tmp 4) 5 (.agg []) (.agg #[]) rfl (by kernel_rfl)) λ_=>.Hp 1003 (.done (.inr ()))) (.done (.inl ()))
theorem Qaq(p0:Int):Hi Tryz.prog GG [0,3] Tryz.f197 [.i p0] (Ext.of .normal (U5 [.i p0]) [] [] (by rfl)) (Qyt p0) (λ(_:Unit)=>.Qc []) (λ(r:Unit)=>Ext.of .normal [] [] [] (by rfl)) (λ(r:Unit)=>K7 (.iface 207 (.agg #[]))) (λ(r:Unit)=>Ext.of .normal [] [] [] (by rfl)):=by unfold Hi;kernel_rfl
def tV(p0:Int):L0 Pg GG (Unit) (Unit):=.ofFn 197 [] Z1 Tryz.func197 rfl (λ_=>rfl) (λ_=>rfl) (Qaq p0)
def Qjq(p0:Int)(p1:J7):TT ((ze×Int×ze)⊕(Unit)):=.cl 1006 (jB p1.GB p0) λr450=>.Qi 2002 (tV r450.2.2) [] [] (λr451=>.done (.inl (r450.2.1.fS,r450.2.1.fB,r450.1))) (λr452=>.done (.inr ()))
theorem Qam(p0:Int)(p1:J7):Hi Tryz.prog GG [0,1,4,5,6,7] Tryz.f147 [.ptr 1000000 0 0,.i p0] (Ext.of .normal (U5 [.ptr 1000000 0 0,.i p0]) [(1000000,⟨7,true,[[.str p1.fh.fy,.str p1.fh.fJ,.i p1.fh.fI,.i p1.fh.fF,.i p1.fh.fQ,.str p1.GB.fS,.i p1.GB.fB]]⟩)] [] (by rfl)) (Qjq p0 p1) (λ(r:ze×Int×ze)=>.str r.2.2) (λ(r:ze×Int×ze)=>Ext.of .normal [] [(1000000,⟨7,true,[[.str p1.fh.fy,.str p1.fh.fJ,.i p1.fh.fI,.i p1.fh.fF,.i p1.fh.fQ,.str r.1,.i r.2.1]]⟩)] [] (by rfl)) (λ(r:Unit)=>K7 (.iface 207 (.agg #[]))) (λ(r:Unit)=>Ext.of .normal [] [] [] (by rfl)):=by unfold Hi;kernel_rfl
def jV(p0:Int)(p1:J7):L0 Pg GG (ze×Int×ze) (Unit):=.ofFn 147 [] Z1 Tryz.func147 rfl (λ_=>rfl) (λ_=>rfl) (Qam p0 p1)
def g85(p0:J7):TT ((ze×Int)⊕(Unit)):=.Qi 2 (jV 3 p0) [(zI,zI)] [] (λr453=>.br 0 (!decide (r453.2.2=(bs [102,100,1]))) (.Qq 1002 (Qh.Zu 207 (.tmp 5) 6 (.agg []) (.agg #[]) rfl (by kernel_rfl)) λ_=>.Hp 1003 (.done (.inr ()))) (.done (.inl (r453.1,r453.2.1)))) (λr454=>.done (.inr ()))
theorem k85(p0:J7):Hi Tryz.prog GG [0,4] Tryz.f85 [.ptr 1000000 0 0] (Ext.of .normal (U5 [.ptr 1000000 0 0]) [(1000000,⟨7,true,[[.str p0.fh.fy,.str p0.fh.fJ,.i p0.fh.fI,.i p0.fh.fF,.i p0.fh.fQ,.str p0.GB.fS,.i p0.GB.fB]]⟩)] [] (by rfl)) (g85 p0) (λ(r:ze×Int)=>.Qc []) (λ(r:ze×Int)=>Ext.of .normal [] [(1000000,⟨7,true,[[.str p0.fh.fy,.str p0.fh.fJ,.i p0.fh.fI,.i p0.fh.fF,.i p0.fh.fQ,.str r.1,.i r.2]]⟩)] [] (by rfl)) (λ(r:Unit)=>K7 (.iface 207 (.agg #[]))) (λ(r:Unit)=>Ext.of .normal [] [] [] (by rfl)):=by unfold Hi;kernel_rfl
def s85(p0:J7):L0 Pg GG (ze×Int) (Unit):=.ofFn 85 [] Z1 Tryz.func85 rfl (λ_=>rfl) (λ_=>rfl) (k85 p0)
def Qj9(p0:Int)(p1:J7):TT ((ze×Int×Int)⊕(Unit)):=.cl 1006 (jS p1.GB p0) λr451=>.Qi 2002 (tV r451.2.2) [] [] (λr452=>.done (.inl (r451.2.1.fS,r451.2.1.fB,r451.1))) (λr453=>.done (.inr ()))
theorem Qak(p0:Int)(p1:J7):Hi Tryz.prog GG [0,1,4,5,6,7] Tryz.f148 [.ptr 1000000 0 0,.i p0] (Ext.of .normal (U5 [.ptr 1000000 0 0,.i p0]) [(1000000,⟨7,true,[[.str p1.fh.fy,.str p1.fh.fJ,.i p1.fh.fI,.i p1.fh.fF,.i p1.fh.fQ,.str p1.GB.fS,.i p1.GB.fB]]⟩)] [] (by rfl)) (Qj9 p0 p1) (λ(r:ze×Int×Int)=>.int .i64 r.2.2) (λ(r:ze×Int×Int)=>Ext.of .normal [] [(1000000,⟨7,true,[[.str p1.fh.fy,.str p1.fh.fJ,.i p1.fh.fI,.i p1.fh.fF,.i p1.fh.fQ,.str r.1,.i r.2.1]]⟩)] [] (by rfl)) (λ(r:Unit)=>K7 (.iface 207 (.agg #[]))) (λ(r:Unit)=>Ext.of .normal [] [] [] (by rfl)):=by unfold Hi;kernel_rfl
def TN(p0:Int)(p1:J7):L0 Pg GG (ze×Int×Int) (Unit):=.ofFn 148 [] Z1 Tryz.func148 rfl (λ_=>rfl) (λ_=>rfl) (Qak p0 p1)
def g86(p0:J7):TT ((Int×ze×Int)⊕(Unit)):=.Qi 3 (TN 6 p0) [(zI,zI)] [] (λr454=>.done (.inl (r454.2.2,r454.1,r454.2.1))) (λr455=>.done (.inr ()))
theorem k86(p0:J7):Hi Tryz.prog GG [0] Tryz.f86 [.ptr 1000000 0 0] (Ext.of .normal (U5 [.ptr 1000000 0 0]) [(1000000,⟨7,true,[[.str p0.fh.fy,.str p0.fh.fJ,.i p0.fh.fI,.i p0.fh.fF,.i p0.fh.fQ,.str p0.GB.fS,.i p0.GB.fB]]⟩)] [] (by rfl)) (g86 p0) (λ(r:Int×ze×Int)=>.Qc []) (λ(r:Int×ze×Int)=>Ext.of .normal [] [(1000000,⟨7,true,[[.str p0.fh.fy,.str p0.fh.fJ,.i p0.fh.fI,.i p0.fh.fF,.i r.1,.str r.2.1,.i r.2.2]]⟩)] [] (by rfl)) (λ(r:Unit)=>K7 (.iface 207 (.agg #[]))) (λ(r:Unit)=>Ext.of .normal [] [] [] (by rfl)):=by unfold Hi;kernel_rfl
def s86(p0:J7):L0 Pg GG (Int×ze×Int) (Unit):=.ofFn 86 [] Z1 Tryz.func86 rfl (λ_=>rfl) (λ_=>rfl) (k86 p0)
def g87(p0:J7):TT ((Int×ze×Int)⊕(Unit)):=.Qi 3 (TN 6 p0) [(zI,zI)] [] (λr452=>.done (.inl (r452.2.2,r452.1,r452.2.1))) (λr453=>.done (.inr ()))
theorem k87(p0:J7):Hi Tryz.prog GG [0] Tryz.f87 [.ptr 1000000 0 0] (Ext.of .normal (U5 [.ptr 1000000 0 0]) [(1000000,⟨7,true,[[.str p0.fh.fy,.str p0.fh.fJ,.i p0.fh.fI,.i p0.fh.fF,.i p0.fh.fQ,.str p0.GB.fS,.i p0.GB.fB]]⟩)] [] (by rfl)) (g87 p0) (λ(r:Int×ze×Int)=>.Qc []) (λ(r:Int×ze×Int)=>Ext.of .normal [] [(1000000,⟨7,true,[[.str p0.fh.fy,.str p0.fh.fJ,.i r.1,.i p0.fh.fF,.i p0.fh.fQ,.str r.2.1,.i r.2.2]]⟩)] [] (by rfl)) (λ(r:Unit)=>K7 (.iface 207 (.agg #[]))) (λ(r:Unit)=>Ext.of .normal [] [] [] (by rfl)):=by unfold Hi;kernel_rfl
def s87(p0:J7):L0 Pg GG (Int×ze×Int) (Unit):=.ofFn 87 [] Z1 Tryz.func87 rfl (λ_=>rfl) (λ_=>rfl) (k87 p0)
def g88(p0:J7):TT ((Int×ze×Int)⊕(Unit)):=.Qi 3 (TN 6 p0) [(zI,zI)] [] (λr453=>.done (.inl (r453.2.2,r453.1,r453.2.1))) (λr454=>.done (.inr ()))
theorem k88(p0:J7):Hi Tryz.prog GG [0] Tryz.f88 [.ptr 1000000 0 0] (Ext.of .normal (U5 [.ptr 1000000 0 0]) [(1000000,⟨7,true,[[.str p0.fh.fy,.str p0.fh.fJ,.i p0.fh.fI,.i p0.fh.fF,.i p0.fh.fQ,.str p0.GB.fS,.i p0.GB.fB]]⟩)] [] (by rfl)) (g88 p0) (λ(r:Int×ze×Int)=>.Qc []) (λ(r:Int×ze×Int)=>Ext.of .normal [] [(1000000,⟨7,true,[[.str p0.fh.fy,.str p0.fh.fJ,.i p0.fh.fI,.i r.1,.i p0.fh.fQ,.str r.2.1,.i r.2.2]]⟩)] [] (by rfl)) (λ(r:Unit)=>K7 (.iface 207 (.agg #[]))) (λ(r:Unit)=>Ext.of .normal [] [] [] (by rfl)):=by unfold Hi;kernel_rfl
def s88(p0:J7):L0 Pg GG (Int×ze×Int) (Unit):=.ofFn 88 [] Z1 Tryz.func88 rfl (λ_=>rfl) (λ_=>rfl) (k88 p0)
def g89(p0:J7):TT ((ze×ze×Int)⊕(Unit)):=.Qi 4 (TN 1 p0) [(zI,zI)] [] (λr454=>.Qi 5 (jV r454.2.2 (J7.mk p0.fh (U0.mk r454.1 r454.2.1))) [(zI,zI)] [] (λr455=>.done (.inl (r455.2.2,r455.1,r455.2.1))) (λr456=>.done (.inr ()))) (λr457=>.done (.inr ()))
theorem k89(p0:J7):Hi Tryz.prog GG [0] Tryz.f89 [.ptr 1000000 0 0] (Ext.of .normal (U5 [.ptr 1000000 0 0]) [(1000000,⟨7,true,[[.str p0.fh.fy,.str p0.fh.fJ,.i p0.fh.fI,.i p0.fh.fF,.i p0.fh.fQ,.str p0.GB.fS,.i p0.GB.fB]]⟩)] [] (by rfl)) (g89 p0) (λ(r:ze×ze×Int)=>.Qc []) (λ(r:ze×ze×Int)=>Ext.of .normal [] [(1000000,⟨7,true,[[.str r.1,.str p0.fh.fJ,.i p0.fh.fI,.i p0.fh.fF,.i p0.fh.fQ,.str r.2.1,.i r.2.2]]⟩)] [] (by rfl)) (λ(r:Unit)=>K7 (.iface 207 (.agg #[]))) (λ(r:Unit)=>Ext.of .normal [] [] [] (by rfl)):=by unfold Hi;kernel_rfl
def s89(p0:J7):L0 Pg GG (ze×ze×Int) (Unit):=.ofFn 89 [] Z1 Tryz.func89 rfl (λ_=>rfl) (λ_=>rfl) (k89 p0)
def g90(p0:J7):TT ((ze×ze×Int)⊕(Unit)):=.Qi 3 (jV 32 p0) [(zI,zI)] [] (λr455=>.done (.inl (r455.2.2,r455.1,r455.2.1))) (λr456=>.done (.inr ()))
theorem k90(p0:J7):Hi Tryz.prog GG [0] Tryz.f90 [.ptr 1000000 0 0] (Ext.of .normal (U5 [.ptr 1000000 0 0]) [(1000000,⟨7,true,[[.str p0.fh.fy,.str p0.fh.fJ,.i p0.fh.fI,.i p0.fh.fF,.i p0.fh.fQ,.str p0.GB.fS,.i p0.GB.fB]]⟩)] [] (by rfl)) (g90 p0) (λ(r:ze×ze×Int)=>.Qc []) (λ(r:ze×ze×Int)=>Ext.of .normal [] [(1000000,⟨7,true,[[.str p0.fh.fy,.str r.1,.i p0.fh.fI,.i p0.fh.fF,.i p0.fh.fQ,.str r.2.1,.i r.2.2]]⟩)] [] (by rfl)) (λ(r:Unit)=>K7 (.iface 207 (.agg #[]))) (λ(r:Unit)=>Ext.of .normal [] [] [] (by rfl)):=by unfold Hi;kernel_rfl
def s90(p0:J7):L0 Pg GG (ze×ze×Int) (Unit):=.ofFn 90 [] Z1 Tryz.func90 rfl (λ_=>rfl) (λ_=>rfl) (k90 p0)
def Xf(s:ze):TT ((ze×ze×Int×Int×Int×Int)⊕(Unit)):=
 .tt (.Qi 6002 (s85 (J7.mk (Z7.mk zg zg 0 0 0) (U0.mk s 0))) [(1000000,11)] [] (λr450=>
  .tt (.Qi 6002 (s86 (J7.mk (Z7.mk zg zg 0 0 0) (U0.mk r450.1 r450.2))) [(1000000,11)] [] (λr451=>
   .tt (.Qi 6002 (s87 (J7.mk (Z7.mk zg zg 0 0 r451.1) (U0.mk r451.2.1 r451.2.2))) [(1000000,11)] [] (λr452=>
    .tt (.Qi 6002 (s88 (J7.mk (Z7.mk zg zg r452.1 0 r451.1) (U0.mk r452.2.1 r452.2.2))) [(1000000,11)] [] (λr453=>
     .tt (.Qi 6002 (s89 (J7.mk (Z7.mk zg zg r452.1 r453.1 r451.1) (U0.mk r453.2.1 r453.2.2))) [(1000000,11)] [] (λr454=>
      .tt (.Qi 6002 (s90 (J7.mk (Z7.mk r454.1 zg r452.1 r453.1 r451.1) (U0.mk r454.2.1 r454.2.2))) [(1000000,11)] [] (λr455=>
       .ff (.Zz 8 [46]
       (.br 8010 (r455.2.2 != (s.size:Int))
        (.done true)
        (.cl 8014 (OR (Z7.mk r454.1 r455.1 r452.1 r453.1 r451.1)) λr456=>
         .done (!r456)))
       zn λc457=>
       .br 0 c457
       (.done (.inl (zg,zg,0,0,0,5)))
       (.done (.inl (r454.1,r455.1,r452.1,r453.1,r451.1,0)))))
      (λr458=>
       .done (.inr ()))))
     (λr459=>
      .done (.inr ()))))
    (λr460=>
     .done (.inr ()))))
   (λr461=>
    .done (.inr ()))))
  (λr462=>
   .done (.inr ()))))
 (λr463=>
  .done (.inr ())))
def yZ(s:ze):Ext:=Ext.of .normal [(0,.str s),(2,.ptr 1000002 0 0),(3,.ptr 1000003 0 0),(7,.fn 84 [] [.ptr 1000002 0 0,.ptr 1000003 0 0])] [(1000002,⟨5,true,[[.str zg,.str zg,.i 0,.i 0,.i 0]]⟩),(1000003,⟨1,true,[[.i 0]]⟩)] [] (by rfl)
def PY(s:ze)(r:ze×ze×Int×Int×Int×Int):Ext:=Ext.of .ret [(2,.ptr 1000002 0 0),(3,.ptr 1000003 0 0)] [(1000002,⟨5,true,[[.str r.1,.str r.2.1,.i r.2.2.1,.i r.2.2.2.1,.i r.q.1]]⟩),(1000003,⟨1,true,[[.i r.q.2]]⟩)] [] (by rfl)
def PZ(s:ze)(r:Unit):Ext:=Ext.of (.panic (K7 (.iface 207 (.agg #[])))) [(2,.ptr 1000002 0 0),(3,.ptr 1000003 0 0)] [(1000002,⟨5,true,[[.str zg,.str zg,.i 0,.i 0,.i 0]]⟩),(1000003,⟨1,true,[[.i 0]]⟩)] [] (by rfl)
theorem Qa0(s:ze):Y3 Tryz.prog GG [0,2,3,4,6,7,24,25,26,46] 52 (cR (cR bH)) (yZ s) (Xf s) (Sum.elim (PY s) (PZ s)):=by unfold Y3;kernel_rfl
def bM:Array Oper:=Oo (cL (cR bH))
def Pq:Oper:=(bM[0]?).get (by kernel_rfl)
def aY:Oper:=(bM[1]?).get (by kernel_rfl)
theorem eBd:Tryz.f46.body=some ([cL bH].foldr Code.seq (.seq (.region 1 #[Pq,aY] false) (cR (cR bH)))):=by kernel_rfl
noncomputable def cBc:Code:=Tryz.f84.body.getD .skip
def bA:Array Oper:=Oo (cL cBc)
def Qik:Oper:=(bA[0]?).get (by kernel_rfl)
def Qiw:Oper:=(bA[1]?).get (by kernel_rfl)
theorem eBc:Tryz.f84.body=some (.seq (.region 0 #[Qik,Qiw] false) (cR cBc)):=by kernel_rfl
def xC:Value:=.iface 207 (.agg #[])
abbrev BO:=ze×ze×Int×Int×Int×Int
def zBd:BO:=(zg,zg,0,0,0,0)
def UW(r:BO):List (Nat×Qd):=[(1000002,⟨5,true,[[.str r.1,.str r.2.1,.int .i64 r.2.2.1,.int .i64 r.2.2.2.1,.int .i64 r.q.1]]⟩),(1000003,⟨1,true,[[.int .i64 r.q.2]]⟩)]
def WH:List V:=[.ptr 1000002 0 0,.ptr 1000003 0 0]
def iV(v:Value)(h:Wn v=true)(r:BO):Ext:=Ext.of .normal [(0,.ptr 1000002 0 0),(1,.ptr 1000003 0 0),(2,.Zu v),(3,.Zu v)] (UW r) [] (by rfl)
def Qi0:TT Unit:=.Qq 1002 (Qh.Qzg (ms:=#[]) 20 20 (.tmp 4) 5 (by kernel_rfl)) λ_=>.ff (.done ())
theorem Qa3(r:BO):Y3 Tryz.prog GG [0,1,2,3,5] 7 (cR cBc) (iV .nilIface rfl r) Qi0 (λ_=>Ext.of .normal [] (UW r) [] (by rfl)):=by unfold Y3;kernel_rfl
def Qav:TT Unit:=.Qq 1002 (Qh.nY 20 20 (.tmp 4) 5 207 (.agg #[]) (by kernel_rfl)) λ_=>.tt (.done ())
theorem Qa2(r:BO):Y3 Tryz.prog GG [0,1,2,3,5] 7 (cR cBc) (iV xC rfl r) Qav (λ_=>Ext.of .normal [] (UW (zg,zg,0,0,0,5)) [] (by rfl)):=by unfold Y3;kernel_rfl
theorem Pz(r:BO):∀b k,Qm (UW r) b=some k->X8 b=true:=λb k h=>by
 obtain⟨p,h1,rfl,_⟩:=Ys h;simp only[UW,zY,wj,or_false] at h1;rcases h1 with rfl|rfl
 ·grind [X8]
 grind [X8]
theorem bdD{u u':FrameMode}{rv:Value}{r r':BO}{x x':Ext}{kp:List Nat}{g:TT Unit}(hi:Wn rv=true)(hr:WE u rv u')(k:Y3 Tryz.prog GG kp 7 (cR cBc) x g (λ_=>x'))(hg:g.run=some ())(hok:x'.ok=true)(hex:x'.ex=.normal)
  (h0:QU GG (((U3 7 WH (Qm (UW r))).put (some 3) (.Zu rv)).put (some 2) (.Zu rv)) (x.D 7).st) (hb:x'.bs=UW r') :
  LM Tryz.prog GG 84 WH (Qm (UW r)) u u' (Qm (UW r')):=by
 refine BQ (n:=7) (t1:=3) (t2:=2) (rv:=rv) Tryz.func84 eBc (by kernel_rfl) (by kernel_rfl) (by kernel_rfl) (by kernel_rfl) (by kernel_rfl) (by kernel_rfl) (by kernel_rfl) (by decide) (by decide) hi hr (by kernel_rfl) ?_;have h:=k.tv Z1 (r:=()) hg hok;exact(TV.ghost h0 h).mono λe s hq=>⟨.inl (hq.1.trans hex),_,hq.2,λb k hk=>by rw[<-hb] at hk;exact hk⟩
theorem Qec(r:BO):LM Tryz.prog GG 84 WH (Qm (UW r)) .returning .returning (Qm (UW r)):=
 bdD rfl (.inl ⟨rfl,rfl,rfl⟩) (Qa3 r) rfl (by rfl) rfl (W6 (iV .nilIface rfl r) (by rfl) rfl ⟨by rfl,by rfl⟩) rfl
theorem Qet(r:BO):LM Tryz.prog GG 84 WH (Qm (UW r)) (.panicking (K7 xC)) (.panicking [{ v:=xC,recovered:=true }]) (Qm (UW (zg,zg,0,0,0,5))):=
 bdD rfl (.inr ⟨xC,[],rfl,rfl,rfl⟩) (Qa2 r) rfl (by rfl) rfl (W6 (iV xC rfl r) (by rfl) rfl ⟨by rfl,by rfl⟩) rfl
def bdV(r:BO):V:=.Qc [.agg [.str r.1,.str r.2.1,.int .i64 r.2.2.1,.int .i64 r.2.2.2.1,.int .i64 r.q.1],.int .i64 r.q.2]
def HE(s:ze):Ext:=Ext.of .normal [(0,.str s),(2,.ptr 1000002 0 0),(3,.ptr 1000003 0 0)] (UW zBd) [] (by rfl)
def aU:V:=.fn 84 [] WH
theorem Qes{x:Ext}(h:x.us=[1000002,1000003]):(x.D 52).st.u=Qw:=funext λb=>by
 show (x.us.contains b || Qw b)=Qw b;rw[h];by_cases h1:b=1000002
 ·subst h1;rfl
 ·by_cases h2:b=1000003
  ·subst h2;rfl
  grind
theorem aJ(s:ze){q:BO⊕Unit}{x:Ext}{u u':FrameMode}{r r':BO}(hx:Sum.elim (PY s) (PZ s) q=x)(h2:(Xf s).run=some q)(hok:x.ok=true)(hl:Go.EV.Left u x.ex)(hbs:(x.D 52).st.b=Qm (UW r))(hus:x.us=[1000002,1000003])
  (hD:LM Tryz.prog GG 84 WH (Qm (UW r)) u u' (Qm (UW r'))) (hu:settle u'=.returning)
  (hres:F1 Tryz.prog ⟨52,(x.D 52).st.t,Qm (UW r'),λ_=>true⟩ Tryz.f46.results.toList=some (bdV r')) :
  QR Tryz.prog GG 46 [.str s] (Qm []) (bdV r') (Qm []):=by
 subst hx;have e0:U3 52 [.str s] (Qm [])=((yY s).D 52).st:=(B9 (x:=yY s) (by rfl) (by rfl) 52).symm;have t0:=(Qa1 s).tv Z1 (r:=()) rfl (by rfl);have t2:=(Qa0 s).tv Z1 h2 hok;have hnoB:(Qm []:zj)=Ot:=rfl;rw[hnoB] at e0 ⊢;have hsh:QU GG ((Ny s ()).D 52).st.shift ((HE s).D 52).st:=by
  have eT:((Ny s ()).ts.map λp=>(p.1,W3 sh p.2))=(HE s).ts:=by kernel_rfl
  have eB:((Ny s ()).bs.map λp=>(sh p.1,p.2.Qb sh))=(HE s).bs:=by kernel_rfl
  rw[Ur,eT,eB];exact W6 (HE s) (by rfl) rfl ⟨by rfl,by rfl⟩
 have st5:C1 Tryz.prog GG #[Pq,aY] 0 ((HE s).D 52).st (((HE s).D 52).st.put (some 7) aU):=ZZ (by rfl);have g0:E4 #[Pq,aY] ((HE s).D 52).st Pq=some true:=by rfl
 have h0:I9 Tryz.prog GG Pq ((HE s).D 52).st (((HE s).D 52).st.put (some 7) aU):=by
  unfold C1 at st5;simp only[show (#[Pq,aY]:Array Oper)[0]?=some Pq from rfl] at st5;rcases st5 with⟨_,h⟩|⟨h,_⟩
  ·exact h
  ·rw[g0] at h;simp at h
 have gB:QU GG (((HE s).D 52).st.put (some 7) aU) ((yZ s).D 52).st:=W6 (yZ s) (by rfl) rfl ⟨by rfl,by rfl⟩;refine RP (As:=[cL bH]) (rest:=cR (cR bH)) (rid:=1) (t:=7) (n:=52) (o0:=Pq) (o1:=aY) (caps:=WH) (insD:=Qm (UW r)) (outsD:=Qm (UW r')) (S0:=((Ny s ()).D 52).st) (S1:=((HE s).D 52).st) (S2:=((Sum.elim (PY s) (PZ s) q).D 52).st) (u:=u) (u':=u')
  Tryz.func46 eBd (by kernel_rfl) ?_ hsh h0 g0 (by kernel_rfl) (by kernel_rfl) (by rfl) (TV.ghost gB t2) hl (λc hc=>?_) (show 7 < 52 by decide) ⟨hbs,Qes hus⟩ ⟨Pz r,Pz r'⟩ Tryz.func84 (by kernel_rfl) (by kernel_rfl) hD hu hres
  λγ w v h=>Qz.IW (γ:=γ) (γ':=γ.Qo) (λB o v h1 h2=>⟨h1,h2⟩) h (by rfl)
 ·rw[e0];show TV _ _ (cL bH) _ _;exact t0
 ·simp only[WH,zY,wj,or_false] at hc;rcases hc with rfl|rfl
  ·exact⟨1000002,_,rfl,by decide,rfl⟩
  ·exact⟨1000003,_,rfl,by decide,rfl⟩
def bE(s:ze):Option BO:=match (Xf s).run with
 | some (.inl r)=>some r
 | some (.inr _)=>some (zg,zg,0,0,0,5)
 | none=>none
theorem Qeb(s:ze){r:BO}(h:bE s=some r):QR Tryz.prog GG 46 [.str s] (Qm []) (bdV r) (Qm []):=by
 unfold bE at h;split at h
 ·rename_i q hq;obtain rfl:=wu h;exact aJ s (r:=q) (r':=q) rfl hq (by rfl) (.inl ⟨rfl,rfl⟩) rfl rfl (Qec q) rfl (by kernel_rfl)
 ·rename_i q hq;obtain rfl:=wu h;exact aJ s (r:=zBd) rfl hq (by rfl) (.inr (.inr ⟨_,rfl,rfl⟩)) rfl rfl (Qet zBd) rfl (by kernel_rfl)
 ·cases h
def s46(p0:ze):Sp (Z7×Int):=⟨46,[.str p0],[],(bE p0).map λr=>(⟨r.1,r.2.1,r.2.2.1,r.2.2.2.1,r.q.1⟩,r.q.2),λr=>bdV (r.1.fy,r.1.fJ,r.1.fI,r.1.fF,r.1.fQ,r.2),λ_=>[],[],λ_ _ h=>by simp at h,λr h=>by obtain⟨q,hq,rfl⟩:=zJ.1 h;exact Qeb p0 hq⟩
def g47(p0:Z7):TT (ze×Int):=.cl 1002 (OR p0) λr464=>.br 0 (!r464) (.done (zg,180)) (.cl 3002 (Cy p0) λr465=>.done (r465,0))
def s47(p0:Z7):Sp (ze×Int):=oF [0,1,2,3,6] Tryz.func47 [.agg [.str p0.fy,.str p0.fJ,.i p0.fI,.i p0.fF,.i p0.fQ]] (g47 p0) (λr=>.Qc [.str r.1,.i r.2])
def Qe1(p0:ze):TT (Bool):=.cl 1002 (s46 p0) λr466=>.done (r466.2==0)
def lW(p0:ze):Sp (Bool):=oF [0,2,4] Tryz.func117 [.str p0] (Qe1 p0) (λr=>.bool r)
def Qwc(p0:ze):TT (Bool):=.cl 1002 (Ff p0) λr470=>.done (!r470)
def tJ(p0:ze):Sp (Bool):=oF [0,2] Tryz.func268 [.str p0] (Qwc p0) (λr=>.bool r)
def Qm4(p0:List ze):TT (Int):=.QC 1 (.lp (λ(l472:Int)=>Ext.l .normal [(0,Sl 1 Z8 p0),(1,.fn 268 [] []),(4,.i 0),(7,.i (I5 Z8 p0)),(8,.i l472)] []) (λl472=>.br 0 (decide (l472 < (I5 Z8 p0))) (.row 4004 Z8 p0 l472.toNat (decide (0<=l472)) λx473=>.cl 4006 (tJ x473) λr474=>.br 0 r474 (.done (.inr (.inl l472))) (.done (.inl (Q0 (l472+1))))) (.done (.inr (.inr ())))) 0) (λ(e475:Int)=>Ext.l .ret [(4,.i e475)] []) (λ(e476:Unit)=>Ext.l (.exit 0) [(4,.i 0)] []) (λe475=>.done e475) (λe476=>.done (-1))
def vE(p0:List ze):Sp (Int):=oF [0,1,4,5,7,8,9,16] Tryz.func173 [Sl 1 Z8 p0,.fn 268 [] []] (Qm4 p0) (λr=>.int .i64 r)
def Qe4(p0:List ze):TT (Bool):=.cl 1003 (vE p0) λr477=>.done (decide ((0:Int)<=r477))
def Qqz(p0:List ze):Sp (Bool):=oF [0,1,4] Tryz.func114 [Sl 1 Z8 p0,.fn 268 [] []] (Qe4 p0) (λr=>.bool r)
def g93(p0:List ze)(p1:ze):TT (Int):=.QC 1 (.lp (λ(l482:Int)=>Ext.l .normal [(0,Sl 1 Z8 p0),(1,.str p1),(4,.i 0),(7,.i (I5 Z8 p0)),(8,.i l482)] []) (λl482=>.br 0 (decide (l482 < (I5 Z8 p0))) (.row 4004 Z8 p0 l482.toNat (decide (0<=l482)) λx483=>.br 0 (decide (p1=x483)) (.done (.inr (.inl l482))) (.done (.inl (Q0 (l482+1))))) (.done (.inr (.inr ())))) 0) (λ(e484:Int)=>Ext.l .ret [(4,.i e484)] []) (λ(e485:Unit)=>Ext.l (.exit 0) [(4,.i 0)] []) (λe484=>.done e484) (λe485=>.done (-1))
def s93(p0:List ze)(p1:ze):Sp (Int):=oF [0,1,4,5,7,8,9,16] Tryz.func93 [Sl 1 Z8 p0,.str p1] (g93 p0 p1) (λr=>.int .i64 r)
def Qwt(p0:Z7)(p1:List ze):TT (Int×Int):=.cl 1002 (OR p0) λr467=>.br 0 (!r467) (.done (0,180)) (.br 0 (decide ((8:Int) < (I5 Z8 p1))) (.done (0,3)) (.cl 5002 (Qqz p1) λr478=>.br 0 r478 (.done (0,5)) (.cl 7003 (Cy p0) λr479=>.cl 7004 (s93 p1 r479) λr486=>.br 0 (decide (r486 < 0)) (.done (0,4)) (.done (r486,0)))))
def tU(p0:Z7)(p1:List ze):Sp (Int×Int):=oF [0,1,2,4,5,6,9,12,14,20] Tryz.func262 [.agg [.str p0.fy,.str p0.fJ,.i p0.fI,.i p0.fF,.i p0.fQ],Sl 1 Z8 p1] (Qwt p0 p1) (λr=>.Qc [.i r.1,.i r.2])
def Qk3(p0:Z7)(p1:List ze)(p2:Int):TT (Int):=.cl 1003 (tU p0 p1) λr487=>.br 0 (r487.2 != 0) (.done r487.2) (.Zz 4 [18] (.oR 4004 (decide (p2 < 0)) (.done (decide ((1099511627776:Int) < p2)))) zn λc488=>.br 0 c488 (.done 2) (.Zz 6 [25] (.oR 6006 (decide (p2 < p0.fI)) (.done (decide (p0.fF < p2)))) zn λc489=>.br 0 c489 (.done 10) (.done 0)))
def tM(p0:Z7)(p1:List ze)(p2:Int):Sp (Int):=oF [0,1,2,3,6,8,16,18,25] Tryz.func251 [.agg [.str p0.fy,.str p0.fJ,.i p0.fI,.i p0.fF,.i p0.fQ],Sl 1 Z8 p1,.i p2] (Qk3 p0 p1 p2) (λr=>.int .i64 r)
structure Q9 where
 fw:Int
 fV:Int
 ft:ze
structure Y1 where
 fB:Int
 fY:Int
 fO:Int
def Qeq(p0 p1:Int):TT (Bool):=.Zz 1 [4] (.an 1004 (decide ((0:Int)<=p0)) (.done (decide (p0<=p1)))) zn λc490=>.done c490
def Si(p0 p1:Int):Sp (Bool):=oF [0,1,4] Tryz.func102 [.i p0,.i p1] (Qeq p0 p1) (λr=>.bool r)
def g58(p0:Q9):TT (Int):=.Zz 1 [18] (.cl 1003 (Si p0.fw 255) λr491=>.oR 1006 (!r491) (.cl 1008 (Si p0.fV 65535) λr492=>.oR 1012 (!r492) (.done (decide ((4000:Int) < (p0.ft.size:Int)))))) zn λc493=>.br 0 c493 (.done 190) (.done 0)
def s58(p0:Q9):Sp (Int):=oF [0,1,2,18] Tryz.func58 [.agg [.i p0.fw,.i p0.fV,.str p0.ft]] (g58 p0) (λr=>.int .i64 r)
def vM(p0:Int):Sp (Int):=oF [0,2] Tryz.func175 [.i p0] (.Qa 1003 (decide ((0:Int)<=(Q0 (p0 - 1)))) (.done (if (6400:Int) < (E0 .i64 400 (Q0 (p0 - 1))) then (6400:Int) else (E0 .i64 400 (Q0 (p0 - 1))))):TT (Int)) (λr=>.int .i64 r)
def Qe0(p0:Y1):TT (Int):=.Zz 2 [31] (.an 2004 (!((p0.fB==(-1))&&((p0.fY==0)&&((p0.fO==0)&&true)))) (.oR 2008 (decide (p0.fB < 0)) (.oR 2013 (decide (p0.fO < 1)) (.oR 2018 (decide ((8:Int) < p0.fO)) (.cl 2022 (vM p0.fO) λr494=>.done (p0.fY != r494)))))) zn λc495=>.br 0 c495 (.done 192) (.done 0)
def lH(p0:Y1):Sp (Int):=oF [0,1,2,3,31] Tryz.func118 [.agg [.i p0.fB,.i p0.fY,.i p0.fO]] (Qe0 p0) (λr=>.int .i64 r)
def Qmq(p0:Y1)(p1:Int):TT (Bool×Int):=.cl 1002 (lH p0) λr496=>.br 0 (r496 != 0) (.done (false,192)) (.cl 3002 (Si p1 1099511627776) λr497=>.br 0 (!r497) (.done (false,2)) (.cl 5004 (Si p0.fB p1) λr498=>.done (r498,0)))
def lZ(p0:Y1)(p1:Int):Sp (Bool×Int):=oF [0,1,2,4,5,6,10] Tryz.func167 [.agg [.i p0.fB,.i p0.fY,.i p0.fO],.i p1] (Qmq p0 p1) (λr=>.Qc [.bool r.1,.i r.2])
def Qm9(p0:Y1)(p1:Int):TT (Y1×Int):=.cl 1003 (lZ p0 p1) λr499=>.br 0 (r499.2 != 0) (.done ((Y1.mk 0 0 0),r499.2)) (.br 0 (!r499.1) (.done ((Y1.mk 0 0 0),8)) (.br 0 (p0.fO==8) (.done ((Y1.mk 0 0 0),4)) (.cl 8004 (vM (Q0 (p0.fO+1))) λr500=>.done ((Y1.mk (Q0 (p1+r500)) r500 (Q0 (p0.fO+1))),0))))
def vI(p0:Y1)(p1:Int):Sp (Y1×Int):=oF [0,1,2,4,5,6,7,8,15,20,24] Tryz.func168 [.agg [.i p0.fB,.i p0.fY,.i p0.fO],.i p1] (Qm9 p0 p1) (λr=>.Qc [.agg [.i r.1.fB,.i r.1.fY,.i r.1.fO],.i r.2])
def Qkd(p0:Int):TT (Y1×Int):=.cl 1002 (Si p0 1099511627776) λr501=>.br 0 (!r501) (.done ((Y1.mk 0 0 0),2)) (.done ((Y1.mk (Q0 (p0+400)) 400 1),0))
def tG(p0:Int):Sp (Y1×Int):=oF [0,2,3,6] Tryz.func212 [.i p0] (Qkd p0) (λr=>.Qc [.agg [.i r.1.fB,.i r.1.fY,.i r.1.fO],.i r.2])
end Go.Proofs.YtjdieimefebnfaaGreatDoor
