/- Guides and contracts, printed by a program. Guides and contracts, printed by a program. Guides and contracts, printed by a program. Helps for the pla ..; no conditions. -/
import Derived.Test.YtjdieimefebnfaaGreatDoorK10
import Derived.Test.YtjdieimefebnfaaGreatDoorK6
import Derived.Test.YtjdieimefebnfaaGreatDoorK7
import Derived.Test.YtjdieimefebnfaaGreatDoorK5
import Derived.Test.YtjdieimefebnfaaGreatDoorK8
import Derived.KernelRfl
set_option linter.unusedVariables false
set_option linter.unusedSimpArgs false
set_option maxRecDepth 100000
noncomputable section
namespace Go.Proofs.YtjdieimefebnfaaGreatDoor
open Go Go.EV
structure Y0 where
 gg:(List Int)
 fK:(List Int)
def Quf(p0:za):TT (Int):=.bind 1 (.lp (λ(l741:Int×Int)=>Ext.l .normal [(0,.str p0),(2,.i 0),(3,.i l741.1),(4,.i l741.2)] []) (λl741=>.br 0 (decide (l741.2 < (p0.size:Int))) (.Qd 5005 (decide (0<=l741.2/\l741.2 < (p0.size:Int))) (.done (.inl ((Q0 ((Q0 ((256:Int) * l741.1))+(Q0 (QZ p0 l741.2)))),(Q0 (l741.2+1)))))) (.done (.inr l741.1))) (0,0)) (λ(e742:Int)=>Ext.l (.exit 0) [(2,.i 0),(3,.i e742)] []) (λe742=>.done e742)
def Ce(p0:za):Sp (Int):=oF [0,2,3,4,8] Tryz.func124 [.str p0] (Quf p0) (λr=>.int .i64 r)
def Qjz(p0:Y0)(p1:List Int)(p2:za):TT ((List Int)):=.gh 1 (.Xk 600023 7 1) (.bind 0 (.lp (λ(l741:(List Int)×Int)=>Ext.of .normal [(1,Sl 1 Q5 p1),(2,.str p2),(3,.ptr 3 0 0),(6,.Qj),(7,Rf 600023 l741.1),(8,.i l741.2)] [(3,⟨2,true,[[Sl 1 Q5 p0.gg,Sl 1 Q5 p0.fK]]⟩)] [Bt 600023 Q5 1 l741.1] (by rfl)) (λl741=>.br 0 (decide (l741.2 < 64)) (.br 0 (decide (l741.2 < 16)) (.Qd 6008 ((decide (0<=(Q0 ((Q0 ((4:Int) * l741.2))+4)))&&decide ((Q0 ((Q0 ((4:Int) * l741.2))+4))<=(p2.size:Int)))&&(decide (0<=(Q0 ((4:Int) * l741.2)))&&decide ((Q0 ((4:Int) * l741.2))<=((Q0 ((Q0 ((4:Int) * l741.2))+4)).toNat:Int)))) (.cl 6009 (Ce (p2.extract ((Q0 ((4:Int) * l741.2)).toNat) ((Q0 ((Q0 ((4:Int) * l741.2))+4)).toNat))) λr742=>.app 6011 Q5 l741.1 [r742] 8 false (by intro h;cases h) (.gh 0 (.drop [600023]) (.gh 0 (.Qc 39 600023) (.done (.inl ((l741.1++[r742]),(Q0 (l741.2+1))))))))) (.Qd 7004 (decide (0<=(Q0 (l741.2 - 15)))&&decide ((Q0 (l741.2 - 15)) < (l741.1.length:Int))) (.row 7005 Q5 l741.1 (0+(Q0 (l741.2 - 15)).toNat) true λx743=>.cl 7006 (Iz x743) λr744=>.Qd 7010 (decide (0<=(Q0 (l741.2 - 2)))&&decide ((Q0 (l741.2 - 2)) < (l741.1.length:Int))) (.row 7011 Q5 l741.1 (0+(Q0 (l741.2 - 2)).toNat) true λx745=>.cl 7012 (Iz x745) λr746=>.Qy 7013 (zu 9) λ_=>.Qy 7014 (zu 10) λ_=>.Qy 7015 (zm 9 45 9 (λ_=>false) r744) λ_=>.Qy 7016 (zm 10 51 10 (λ_=>false) r746) λ_=>.Qd 8005 (decide (0<=(Q0 (l741.2 - 16)))&&decide ((Q0 (l741.2 - 16)) < (l741.1.length:Int))) (.row 8006 Q5 l741.1 (0+(Q0 (l741.2 - 16)).toNat) true λx747=>.Qd 8010 (decide (0<=(Q0 (l741.2 - 7)))&&decide ((Q0 (l741.2 - 7)) < (l741.1.length:Int))) (.row 8011 Q5 l741.1 (0+(Q0 (l741.2 - 7)).toNat) true λx748=>.Qy 8012 (zl 9 63 9 r744) λ_=>.cl 8013 (Df r744 7) λr749=>.Qy 8014 (zl 9 65 9 r744) λ_=>.cl 8015 (Df r744 18) λr750=>.Qy 8016 (zl 9 67 9 r744) λ_=>.cl 8017 (dZ r744 3) λr751=>.cl 8018 (RW r749 r750 r751) λr752=>.cl 8019 (Gm r752) λr753=>.Qy 8020 (zl 10 71 10 r746) λ_=>.cl 8021 (Df r746 17) λr754=>.Qy 8022 (zl 10 73 10 r746) λ_=>.cl 8023 (Df r746 19) λr755=>.Qy 8024 (zl 10 75 10 r746) λ_=>.cl 8025 (dZ r746 10) λr756=>.cl 8026 (RW r754 r755 r756) λr757=>.cl 8027 (Gm r757) λr758=>.cl 8028 (Dg x747 x748 r753 r758 0) λr759=>.app 8030 Q5 l741.1 [r759] 8 false (by intro h;cases h) (.gh 0 (.drop [600023]) (.gh 0 (.Qc 81 600023) (.done (.inl ((l741.1++[r759]),(Q0 (l741.2+1))))))))))))) (.done (.inr l741.1))) ([],0)) (λ(e760:(List Int))=>Ext.of (.exit 0) [(1,Sl 1 Q5 p1),(3,.ptr 3 0 0),(6,.Qj),(7,Rf 600023 e760)] [(3,⟨2,true,[[Sl 1 Q5 p0.gg,Sl 1 Q5 p0.fK]]⟩)] [Bt 600023 Q5 1 e760] (by rfl)) (λe760=>.app 10003 Q5 [] p1 8 true (by intros;rfl) (.gh 1 (.Qc 84 600025) (.bind 0 (.lp (λ(l808:(List Int)×Int)=>Ext.of .normal [(1,Sl 1 Q5 p1),(3,.ptr 3 0 0),(6,.Qj),(7,Rf 600023 e760),(11,Rf 600025 l808.1),(12,.i l808.2)] [(3,⟨2,true,[[Sl 1 Q5 p0.gg,Sl 1 Q5 p0.fK]]⟩)] [Bt 600023 Q5 1 e760,Bt 600025 Q5 1 l808.1] (by rfl)) (λl808=>.br 0 (decide (l808.2 < 64)) (.Qd 14002 (bD 0 l808.1.length) (.row 14003 Q5 l808.1 0 true λx809=>.cl 14004 (Iz x809) λr810=>.Qd 14006 (bD 1 l808.1.length) (.row 14007 Q5 l808.1 1 true λx811=>.cl 14008 (Iz x811) λr812=>.Qd 14010 (bD 2 l808.1.length) (.row 14011 Q5 l808.1 2 true λx813=>.cl 14012 (Iz x813) λr814=>.Qy 14013 (zu 13) λ_=>.Qy 14014 (zu 14) λ_=>.Qy 14015 (zu 15) λ_=>.Qy 14016 (zm 13 92 13 (λ_=>false) r810) λ_=>.Qy 14017 (zm 14 96 14 (λ_=>false) r812) λ_=>.Qy 14018 (zm 15 100 15 (λ_=>false) r814) λ_=>.Qd 15002 (bD 4 l808.1.length) (.row 15003 Q5 l808.1 4 true λx815=>.cl 15004 (Iz x815) λr816=>.Qd 15006 (bD 5 l808.1.length) (.row 15007 Q5 l808.1 5 true λx817=>.cl 15008 (Iz x817) λr818=>.Qd 15010 (bD 6 l808.1.length) (.row 15011 Q5 l808.1 6 true λx819=>.cl 15012 (Iz x819) λr820=>.Qy 15013 (zu 16) λ_=>.Qy 15014 (zu 17) λ_=>.Qy 15015 (zu 18) λ_=>.Qy 15016 (zm 16 104 16 (λ_=>false) r816) λ_=>.Qy 15017 (zm 17 108 17 (λ_=>false) r818) λ_=>.Qy 15018 (zm 18 112 18 (λ_=>false) r820) λ_=>.Qd 16002 (bD 7 l808.1.length) (.row 16003 Q5 l808.1 7 true λx821=>.Qy 16004 (zl 16 116 16 r816) λ_=>.cl 16005 (Df r816 6) λr822=>.Qy 16006 (zl 16 118 16 r816) λ_=>.cl 16007 (Df r816 11) λr823=>.Qy 16008 (zl 16 120 16 r816) λ_=>.cl 16009 (Df r816 25) λr824=>.cl 16010 (RW r822 r823 r824) λr825=>.cl 16011 (Gm r825) λr826=>.Qy 16012 (zl 16 124 16 r816) λ_=>.Qy 16013 (zl 17 125 17 r818) λ_=>.cl 16014 (Gk r816 r818) λr827=>.Qy 16015 (zl 16 127 16 r816) λ_=>.cl 16016 (dQ r816) λr828=>.Qy 16017 (zl 18 129 18 r820) λ_=>.cl 16018 (Gk r828 r820) λr829=>.cl 16019 (Cq r827 r829) λr830=>.cl 16020 (Gm r830) λr831=>.row 16024 Q5 p0.fK l808.2.toNat (decide (0<=l808.2)) λx832=>.Qd 16028 (bD l808.2 e760.length) (.row 16029 Q5 e760 (0+l808.2.toNat) true λx833=>.cl 16030 (Dg x821 r826 r831 x832 x833) λr834=>.Qy 17001 (zl 13 143 13 r810) λ_=>.cl 17002 (Df r810 2) λr835=>.Qy 17003 (zl 13 145 13 r810) λ_=>.cl 17004 (Df r810 13) λr836=>.Qy 17005 (zl 13 147 13 r810) λ_=>.cl 17006 (Df r810 22) λr837=>.cl 17007 (RW r835 r836 r837) λr838=>.cl 17008 (Gm r838) λr839=>.Qy 17009 (zl 13 151 13 r810) λ_=>.Qy 17010 (zl 14 152 14 r812) λ_=>.cl 17011 (Gk r810 r812) λr840=>.Qy 17012 (zl 13 154 13 r810) λ_=>.Qy 17013 (zl 15 155 15 r814) λ_=>.cl 17014 (Gk r810 r814) λr841=>.Qy 17015 (zl 14 157 14 r812) λ_=>.Qy 17016 (zl 15 158 15 r814) λ_=>.cl 17017 (Gk r812 r814) λr842=>.cl 17018 (RW r840 r841 r842) λr843=>.cl 17019 (Gm r843) λr844=>.cl 17020 (Dg r839 r844 0 0 0) λr845=>.cl 18003 (Dg r834 r845 0 0 0) λr846=>.Qd 18005 (bD 0 l808.1.length) (.row 18006 Q5 l808.1 0 true λx847=>.Qd 18008 (bD 1 l808.1.length) (.row 18009 Q5 l808.1 1 true λx848=>.Qd 18011 (bD 2 l808.1.length) (.row 18012 Q5 l808.1 2 true λx849=>.Qd 18014 (bD 3 l808.1.length) (.row 18015 Q5 l808.1 3 true λx850=>.cl 18017 (Dg x850 r834 0 0 0) λr851=>.Qd 18019 (bD 4 l808.1.length) (.row 18020 Q5 l808.1 4 true λx852=>.Qd 18022 (bD 5 l808.1.length) (.row 18023 Q5 l808.1 5 true λx853=>.Qd 18025 (bD 6 l808.1.length) (.row 18026 Q5 l808.1 6 true λx854=>.gh 0 (.drop [600025]) (.gh 0 (.Qc 189 600025) (.done (.inl ([r846,x847,x848,x849,r851,x852,x853,x854],(Q0 (l808.2+1)))))))))))))))))))))) (.done (.inr l808.1))) (([]++p1),0)) (λ(e855:(List Int))=>Ext.of (.exit 2) [(1,Sl 1 Q5 p1),(6,.Qj),(11,Rf 600025 e855)] [] [Bt 600025 Q5 1 e855] (by rfl)) (λe855=>.gh 1 (.Xk 600026 21 1) (.bind 0 (.lp (λ(l860:(List Int)×Int)=>Ext.of .normal [(1,Sl 1 Q5 p1),(6,.Qj),(11,Rf 600025 e855),(21,Rf 600026 l860.1),(22,.i l860.2)] [] [Bt 600025 Q5 1 e855,Bt 600026 Q5 1 l860.1] (by rfl)) (λl860=>.br 0 (decide (l860.2 < 8)) (.row 23004 Q5 p1 l860.2.toNat (decide (0<=l860.2)) λx861=>.Qd 23008 (bD l860.2 e855.length) (.row 23009 Q5 e855 (0+l860.2.toNat) true λx862=>.cl 23010 (Dg x861 x862 0 0 0) λr863=>.app 23012 Q5 l860.1 [r863] 8 false (by intro h;cases h) (.gh 0 (.drop [600026]) (.gh 0 (.Qc 205 600026) (.done (.inl ((l860.1++[r863]),(Q0 (l860.2+1))))))))) (.done (.inr l860.1))) ([],0)) (λ(e864:(List Int))=>Ext.of (.exit 4) [(6,.Qj),(21,Rf 600026 e864)] [] [Bt 600026 Q5 1 e864] (by rfl)) (λe864=>.gh 0 (.share (QE.o 600026 Q5 e864) 1) (.done e864))))))))
def rH(p0:Y0)(p1:List Int)(p2:za):Sp ((List Int)):=oF [0,1,2,3,6,7,8,9,10,11,12,13,14,15,16,17,18,19,20,21,22,24,28,86,191] Tryz.func195 [.agg [Sl 1 Q5 p0.gg,Sl 1 Q5 p0.fK],Sl 1 Q5 p1,.str p2] (Qjz p0 p1 p2) (λr=>Sl 1 Q5 r)
def g83(p0 p1:Int):TT (za):=.bind 1 (.lp (λ(l868:Int×za×Int)=>Ext.l .normal [(0,.i p0),(1,.i l868.1),(4,.str zd),(5,.str l868.2.1),(6,.i l868.2.2)] []) (λl868=>.br 0 (decide (l868.2.2 < p0)) (.Qd 5007 (decide ((strOfNums [(Qm (Int.tmod l868.1 256))]).size+l868.2.1.size<=9223372036854775807)) (.done (.inl ((Q0 (Int.tdiv l868.1 256)),((strOfNums [(Qm (Int.tmod l868.1 256))])++l868.2.1),(Q0 (l868.2.2+1)))))) (.done (.inr l868.2.1))) (p1,zd,0)) (λ(e869:za)=>Ext.l (.exit 0) [(4,.str zd),(5,.str e869)] []) (λe869=>.done e869)
def mD(p0 p1:Int):Sp (za):=oF [0,1,4,5,6,9] Tryz.func83 [.i p0,.i p1] (g83 p0 p1) (λr=>.str r)
def Qu8(p0:List Int):TT (za):=.bind 1 (.lp (λ(l871:za×Int)=>Ext.l .normal [(0,Sl 1 Q5 p0),(2,.str zd),(3,.str l871.1),(4,.i l871.2)] []) (λl871=>.br 0 (decide (l871.2 < (M9 Q5 p0))) (.row 5004 Q5 p0 l871.2.toNat (decide (0<=l871.2)) λx872=>.cl 5006 (mD 4 x872) λr873=>.Qd 5007 (decide (l871.1.size+r873.size<=9223372036854775807)) (.done (.inl ((l871.1++r873),(Q0 (l871.2+1)))))) (.done (.inr l871.1))) (zd,0)) (λ(e874:za)=>Ext.l (.exit 0) [(2,.str zd),(3,.str e874)] []) (λe874=>.done e874)
def pU(p0:List Int):Sp (za):=oF [0,2,3,4,8] Tryz.func144 [Sl 1 Q5 p0] (Qu8 p0) (λr=>.str r)
def Qu7(p0:Y0)(p1:List Int)(p2:za):TT ((List Int)):=.bind 1 (.lp (λ(l877:(List Int)×Int)=>Ext.l .normal [(1,Sl 1 Q5 l877.1),(2,.str p2),(3,.ptr 3 0 0),(6,.Qj),(7,.i l877.2)] [(3,⟨2,true,[[Sl 1 Q5 p0.gg,Sl 1 Q5 p0.fK]]⟩)]) (λl877=>.br 0 (decide ((Q0 (l877.2+64))<=(p2.size:Int))) (.Qd 4007 ((decide (0<=(Q0 (l877.2+64)))&&decide ((Q0 (l877.2+64))<=(p2.size:Int)))&&(decide (0<=l877.2)&&decide (l877.2<=((Q0 (l877.2+64)).toNat:Int)))) (.cl 4008 (rH p0 l877.1 (p2.extract l877.2.toNat ((Q0 (l877.2+64)).toNat))) λr878=>.done (.inl (r878,(Q0 (l877.2+64)))))) (.done (.inr l877.1))) (p1,0)) (λ(e879:(List Int))=>Ext.l (.exit 0) [(1,Sl 1 Q5 e879),(6,.Qj)] []) (λe879=>.done e879)
def pJ(p0:Y0)(p1:List Int)(p2:za):Sp ((List Int)):=oF [0,1,2,3,6,7,12] Tryz.func145 [.agg [Sl 1 Q5 p0.gg,Sl 1 Q5 p0.fK],Sl 1 Q5 p1,.str p2] (Qu7 p0 p1 p2) (λr=>Sl 1 Q5 r)
def Qu6(p0:za)(p1:Int):TT (za):=.Qd 1004 (decide (p0.size+(bs [128]).size<=9223372036854775807)) (.bind 1 (.lp (λ(l881:za)=>Ext.l .normal [(1,.i p1),(4,.str zd),(5,.str l881)] []) (λl881=>.br 0 ((Int.tmod (l881.size:Int) 64) != 56) (.Qd 3004 (decide (l881.size+(bs [0]).size<=9223372036854775807)) (.done (.inl (l881++(bs [0]))))) (.done (.inr l881))) (p0++(bs [128]))) (λ(e882:za)=>Ext.l (.exit 0) [(1,.i p1),(4,.str zd),(5,.str e882)] []) (λe882=>.bind 1 (.lp (λ(l884:Int×za×Int)=>Ext.l .normal [(4,.str zd),(5,.str e882),(6,.i l884.1),(7,.str l884.2.1),(8,.i l884.2.2)] []) (λl884=>.br 0 (decide (l884.2.2 < 8)) (.Qd 9007 (decide ((strOfNums [(Qm (Int.tmod l884.1 256))]).size+l884.2.1.size<=9223372036854775807)) (.done (.inl ((Q0 (Int.tdiv l884.1 256)),((strOfNums [(Qm (Int.tmod l884.1 256))])++l884.2.1),(Q0 (l884.2.2+1)))))) (.done (.inr (e882,l884.2.1)))) ((Q0 ((8:Int) * p1)),zd,0)) (λ(e885:za×za)=>Ext.l (.exit 2) [(4,.str zd),(5,.str e885.1),(7,.str e885.2)] []) (λe885=>.Qd 11003 (decide (e885.1.size+e885.2.size<=9223372036854775807)) (.done (e885.1++e885.2)))))
def pY(p0:za)(p1:Int):Sp (za):=oF [0,1,4,5,6,7,8,16,24] Tryz.func146 [.str p0,.i p1] (Qu6 p0 p1) (λr=>.str r)
def g82(p0:Y0)(p1:za):TT (za):=.Qd 2006 (decide (0<=(Q0 ((Q0 (Int.tdiv (p1.size:Int) 64)) * 64)))&&decide ((Q0 ((Q0 (Int.tdiv (p1.size:Int) 64)) * 64))<=(p1.size:Int))) (.Qd 2009 (decide (0<=(Q0 ((Q0 (Int.tdiv (p1.size:Int) 64)) * 64)))&&decide ((Q0 ((Q0 (Int.tdiv (p1.size:Int) 64)) * 64))<=(p1.size:Int))) (.cl 2012 (pY (p1.extract ((Q0 ((Q0 (Int.tdiv (p1.size:Int) 64)) * 64)).toNat) p1.size) (p1.size:Int)) λr886=>.Qd 2013 (decide ((p1.extract 0 ((Q0 ((Q0 (Int.tdiv (p1.size:Int) 64)) * 64)).toNat)).size+r886.size<=9223372036854775807)) (.cl 2014 (pJ p0 p0.gg ((p1.extract 0 ((Q0 ((Q0 (Int.tdiv (p1.size:Int) 64)) * 64)).toNat))++r886)) λr887=>.cl 2015 (pU r887) λr888=>.done r888)))
def nH(p0:Y0)(p1:za):Sp (za):=oF [0,1,2,4,5] Tryz.func82 [.agg [Sl 1 Q5 p0.gg,Sl 1 Q5 p0.fK],.str p1] (g82 p0 p1) (λr=>.str r)
def Qyh(p0:za)(p1:Int):TT (za):=.Qy 1001 (Qw.ZW (ty:=Z9) (t:=57) (e:=5) (k:=.u8) (.const (.int .i64 64)) (.const (.int .i64 64)) 7 64 1) λ_=>.Qy 2003 (Qw.Nl (ty:=Z9) (dT:=57) (sT:=9) (elem:=5) (.tmp 8) (.tmp 9) 10 7 64 (List.replicate 64 (0:Int)) p0) λ_=>.bind 1 (.lp (λ(l892:(List Int)×Int)=>Ext.of .normal [(1,.i p1),(4,.str zd),(5,.ref 7 0 64),(6,.i l892.2)] [] [Bt 7 Z9 1 l892.1] (by rfl)) (λl892=>.br 0 (decide (l892.2 < 64)) (.Qd 6005 (bD l892.2 64) (.row 6006 Z9 l892.1 (0+l892.2.toNat) true λx893=>.Qd 6010 (bD l892.2 64) (.row 6011 Z9 l892.1 (0+l892.2.toNat) true λx894=>.re 6011 (Yo.put 7 1 Z9 l892.1 (0+l892.2.toNat) (O2 .u8 x893 (Qm p1))) (.done (.inl ((l892.1.set (0+l892.2.toNat) (O2 .u8 x893 (Qm p1))),(Q0 (l892.2+1)))))))) (.done (.inr l892.1))) ((G2 (List.replicate 64 (0:Int)) 0 (Q3 p0)),0)) (λ(e895:(List Int))=>Ext.of (.exit 0) [(4,.str zd),(5,.ref 7 0 64)] [] [Bt 7 Z9 1 e895] (by rfl)) (λe895=>.fact (e895.length=64) inferInstance λh896=>.Qy 7002 (Qw.Zi (ty:=Z9) (s:=57) (t:=9) (e:=5) (.tmp 25) 26 7 e895 64 (hn:=h896)) λ_=>.done (strOfNums e895))
def eP(p0:za)(p1:Int):Sp (za):=oF [0,1,4,5,6,12] Tryz.func255 [.str p0,.i p1] (Qyh p0 p1) (λr=>.str r)
def Qyp(p0:Y0)(p1 p2:za):TT (za):=.bind 0 (.br 0 (decide ((64:Int) < (p1.size:Int))) (.cl 2003 (nH p0 p1) λr897=>.done r897) (.done p1)) (λ(e898:za)=>Ext.l .normal [(1,.str e898),(2,.str p2),(3,.ptr 3 0 0),(6,.str zd)] [(3,⟨2,true,[[Sl 1 Q5 p0.gg,Sl 1 Q5 p0.fK]]⟩)]) (λe898=>.cl 3003 (eP e898 92) λr899=>.cl 3006 (eP e898 54) λr900=>.Qd 3008 (decide (r900.size+p2.size<=9223372036854775807)) (.cl 3009 (nH p0 (r900++p2)) λr901=>.Qd 3010 (decide (r899.size+r901.size<=9223372036854775807)) (.cl 3011 (nH p0 (r899++r901)) λr902=>.done r902)))
def Cz(p0:Y0)(p1 p2:za):Sp (za):=oF [0,1,2,3,6,9] Tryz.func228 [.agg [Sl 1 Q5 p0.gg,Sl 1 Q5 p0.fK],.str p1,.str p2] (Qyp p0 p1 p2) (λr=>.str r)
def Qys(p0:Y0)(p1 p2 p3:za)(p4:Int):TT (za):=.cl 1004 (Cz p0 p2 p1) λr903=>.bind 1 (.lp (λ(l906:za×za×Int)=>Ext.l .normal [(3,.str p3),(4,.i p4),(5,.ptr 5 0 0),(10,.str zd),(11,.str r903),(12,.str l906.1),(13,.str l906.2.1),(14,.i l906.2.2)] [(5,⟨2,true,[[Sl 1 Q5 p0.gg,Sl 1 Q5 p0.fK]]⟩)]) (λl906=>.br 0 (decide ((l906.1.size:Int) < p4)) (.Qd 6005 (decide (l906.2.1.size+p3.size<=9223372036854775807)) (.Qd 6010 (decide ((l906.2.1++p3).size+(strOfNums [(Qm l906.2.2)]).size<=9223372036854775807)) (.cl 6011 (Cz p0 r903 ((l906.2.1++p3)++(strOfNums [(Qm l906.2.2)]))) λr907=>.Qd 7003 (decide (l906.1.size+r907.size<=9223372036854775807)) (.done (.inl ((l906.1++r907),r907,(Q0 (l906.2.2+1)))))))) (.done (.inr l906.1))) (zd,zd,1)) (λ(e908:za)=>Ext.l (.exit 0) [(4,.i p4),(10,.str zd),(12,.str e908)] []) (λe908=>.Qd 8003 (decide (0<=p4)&&decide (p4<=(e908.size:Int))) (.done (e908.extract 0 p4.toNat)))
def dY(p0:Y0)(p1 p2 p3:za)(p4:Int):Sp (za):=oF [0,1,2,3,4,5,10,11,12,13,14,22] Tryz.func227 [.agg [Sl 1 Q5 p0.gg,Sl 1 Q5 p0.fK],.str p1,.str p2,.str p3,.i p4] (Qys p0 p1 p2 p3 p4) (λr=>.str r)
def g35(p0:Int):TT ((List Int)):=.gh 1 (.Xk 600027 3 1) (.bind 0 (.lp (λ(l912:(List Int)×Int)=>Ext.of .normal [(0,.i p0),(2,.Qj),(3,Rf 600027 l912.1),(4,.i l912.2)] [] [Bt 600027 Q5 1 l912.1] (by rfl)) (λl912=>.br 0 (decide ((l912.1.length:Int) < p0)) (.bind 2 (.lp (λ(l915:Bool×Int)=>Ext.of .normal [(0,.i p0),(2,.Qj),(3,Rf 600027 l912.1),(4,.i l912.2),(5,.bool l915.1),(6,.i l915.2)] [] [Bt 600027 Q5 1 l912.1] (by rfl)) (λl915=>.br 0 (decide (l915.2 < (l912.1.length:Int))) (.Qd 9004 (bD l915.2 l912.1.length) (.row 9005 Q5 l912.1 (0+l915.2.toNat) true λx916=>.Qd 9006 (!(x916==0)) (.br 0 ((Int.tmod l912.2 x916)==0) (.done (.inl (false,(Q0 (l915.2+1))))) (.done (.inl (l915.1,(Q0 (l915.2+1)))))))) (.done (.inr l915.1))) (true,0)) (λ(e917:Bool)=>Ext.of (.exit 2) [(0,.i p0),(2,.Qj),(3,Rf 600027 l912.1),(4,.i l912.2),(5,.bool e917)] [] [Bt 600027 Q5 1 l912.1] (by rfl)) (λe917=>.br 0 e917 (.app 12004 Q5 l912.1 [l912.2] 8 false (by intro h;cases h) (.gh 0 (.drop [600027]) (.gh 0 (.Qc 30 600027) (.done (.inl ((l912.1++[l912.2]),(Q0 (l912.2+1)))))))) (.done (.inl (l912.1,(Q0 (l912.2+1))))))) (.done (.inr l912.1))) ([],2)) (λ(e918:(List Int))=>Ext.of (.exit 0) [(2,.Qj),(3,Rf 600027 e918)] [] [Bt 600027 Q5 1 e918] (by rfl)) (λe918=>.gh 0 (.share (QE.o 600027 Q5 e918) 1) (.done e918)))
def s35(p0:Int):Sp ((List Int)):=oF [0,2,3,4,5,6,10,16,25,26] Tryz.func35 [.i p0] (g35 p0) (λr=>Sl 1 Q5 r)
def s72(p0 p1 p2:Int):Sp (Bool):=oF [0,1,2,6,7,8,9,10,11,12,13,14,15,23] Tryz.func72 [.int .u64 p0,.int .u64 p1,.i p2] (.cl 1003 (Hf p0 p0) λr920=>.br 0 (p2==2) (.QD 3 [6] (.oR 3005 (decide (r920.1 < p1)) (.an 3009 (r920.1==p1) (.done (r920.2==0)))) zi λc921=>.done c921) (.cl 4003 (Hf r920.2 p0) λr922=>.cl 5003 (Hf r920.1 p0) λr923=>.Qy 6003 (adc (.tmp 49) (.tmp 50) (.const (.int .u64 0)) 51 r922.1 r923.2 0) λr924=>.QD 8 [6] (.an 8004 ((Z1 (r923.1+r924.2))==0) (.oR 8009 (decide (r924.1 < (M3 .u64 p1 32))) (.an 8014 (r924.1==(M3 .u64 p1 32)) (.done (r922.2==0))))) zi λc925=>.done c925):TT (Bool)) (λr=>.bool r)
def nK(p0 p1:Int):Sp (Int):=oF [0,1,4,5,6,7,11,20] Tryz.func36 [.i p0,.i p1] (.bind 1 (.lp (λ(l921:Int×Int)=>Ext.l .normal [(0,.i p0),(1,.i p1),(4,.i 0),(5,.int .u64 l921.1),(6,.int .u64 l921.2)] []) (λl921=>.br 0 (decide ((Z1 (l921.1+1)) < l921.2)) (.cl 4005 (s72 (Z1 (Int.tdiv (Z1 (l921.1+l921.2)) 2)) (Z1 p0) p1) λr922=>.br 0 r922 (.done (.inl ((Z1 (Int.tdiv (Z1 (l921.1+l921.2)) 2)),l921.2))) (.done (.inl (l921.1,(Z1 (Int.tdiv (Z1 (l921.1+l921.2)) 2)))))) (.done (.inr l921.1))) (0,274877906944)) (λ(e923:Int)=>Ext.l (.exit 0) [(4,.i 0),(5,.int .u64 e923)] []) (λe923=>.done (Q0 (Int.tmod e923 4294967296))):TT (Int)) (λr=>.int .i64 r)
def g9 :TT (Y0):=.cl 2001 (s35 64) λr924=>.gh 1 (.IJ 600028 1 0 1) (.gh 1 (.IJ 600029 1 1 1) (.bind 0 (.lp (λ(l930:(List Int)×(List Int)×Int)=>Ext.of .normal [(0,.ptr 0 0 0),(1,.ptr 1 0 0),(2,Sl 1 Q5 r924),(3,.i l930.2.2)] [(0,⟨2,true,[[.Qj,.Qj]]⟩),(1,⟨2,true,[[Rf 600028 l930.1,Rf 600029 l930.2.1]]⟩)] [Bt 600028 Q5 1 l930.1,Bt 600029 Q5 1 l930.2.1] (by rfl)) (λl930=>.br 0 (decide (l930.2.2 < 64)) (.row 6005 Q5 r924 l930.2.2.toNat (decide (0<=l930.2.2)) λx931=>.cl 6007 (nK x931 3) λr932=>.app 6009 Q5 l930.2.1 [r932] 8 false (by intro h;cases h) (.br 0 (decide (l930.2.2 < 8)) (.row 8005 Q5 r924 l930.2.2.toNat (decide (0<=l930.2.2)) λx933=>.cl 8007 (nK x933 2) λr934=>.app 8009 Q5 l930.1 [r934] 8 false (by intro h;cases h) (.gh 0 (.drop [600028]) (.gh 0 (.Qc 29 600028) (.gh 0 (.drop [600029]) (.gh 0 (.Qc 17 600029) (.done (.inl ((l930.1++[r934]),(l930.2.1++[r932]),(Q0 (l930.2.2+1)))))))))) (.gh 0 (.drop [600029]) (.gh 0 (.Qc 17 600029) (.done (.inl (l930.1,(l930.2.1++[r932]),(Q0 (l930.2.2+1))))))))) (.done (.inr (l930.1,l930.2.1)))) ([],[],0)) (λ(e935:(List Int)×(List Int))=>Ext.of (.exit 0) [(0,.ptr 0 0 0),(1,.ptr 1 0 0)] [(0,⟨2,true,[[.Qj,.Qj]]⟩),(1,⟨2,true,[[Rf 600028 e935.1,Rf 600029 e935.2]]⟩)] [Bt 600028 Q5 1 e935.1,Bt 600029 Q5 1 e935.2] (by rfl)) (λe935=>.gh 0 (.share (QE.o 600028 Q5 e935.1) 1) (.gh 0 (.share (QE.o 600029 Q5 e935.2) 1) (.done (Y0.mk e935.1 e935.2))))))
def s9 :Sp (Y0):=oF [0,1,2,3,6,20] Tryz.func9 [] (g9) (λr=>.agg [Sl 1 Q5 r.gg,Sl 1 Q5 r.fK])
theorem Z3{n:Int}(h1:-9223372036854775808<=n)(h2:n<=9223372036854775807):Q0 n=n:=by
 grind [Q0,IntKind.wrap,IntKind.signed,IntKind.bits]
theorem I1{n:Nat}(h:n<=140737488355329):n < ZN:=by unfold ZN;omega
theorem Ok.s{P:Program}{G:ze}{σ ε:Type}{S:σ->Ext}{body:σ->T P G (σ⊕ε)}{x0:σ}{R:ε->Prop}(n:Nat)(hn:n<=1000000)(I:Nat->σ->Prop)(h0:I 0 x0)
  (step:∀k y,I k y->k < n->Ok (body y) (Sum.elim (I (k+1)) R)) (last:∀y,I n y->Ok (body y) (Sum.elim (λ_=>False) R)):Ok (.lp S body x0) R:=by
 have key:∀m k y,I k y->k<=n->n - k < m->∃e,X7 (λy=>(body y).run) m y=some e/\R e:=by
  intro m
  induction m with
  | zero=>grind
  | succ m ih=>
   intro k y hy hk hm
   have e1:X7 (λy=>(body y).run) (m+1) y=(match (body y).run with|none=>none|some (.inl y)=>X7 (λy=>(body y).run) m y|some (.inr e)=>some e):=rfl
   rw[e1]
   rcases wH k n with h|h
   ·obtain⟨r,hr,hq⟩:=step k y hy h
    grind
   ·have:k=n:=by omega
    subst this
    obtain⟨r,hr,hq⟩:=last y hy
    grind
 exact key ZN 0 x0 h0 (Nat.zero_le _) (I1 (by omega))
theorem Z8{k n:Nat}(h:k < n)(hn:n<=1000000):Q0 ((k:Int)+1)=((k+1:Nat):Int):=by
 grind [Z3]
theorem E1{α:Type}{l:List α}{k:Nat}(h:k < l.length):∃x,l[((k:Int)).toNat]?=some x/\l[k]?=some x:=⟨l[k],by grind,wd h⟩
section
variable {P:Program} {G:ze} {ρ:Type} {Q:ρ->Prop}
theorem Ok.o{β:Type}{a:Nat}{R:Qw P G β}{k:β->T P G ρ}{r:β}(hr:R.o=some r)(h:Ok (k r) Q):Ok (.Qy a R k) Q:=by
 obtain⟨x,e,hq⟩:=h
 exact⟨x,by grind [T.run],hq⟩
theorem Ok.t{a:Nat}{c:Bool}{x y:T P G ρ}(hc:c=true)(h:Ok x Q):Ok (.br a c x y) Q:=(by grind [Ok.e])
theorem Ok.f{a:Nat}{c:Bool}{x y:T P G ρ}(hc:c=false)(h:Ok y Q):Ok (.br a c x y) Q:=(by grind [Ok.e])
end
def YJ:Nat->Int->List Int
 | 0,_=>[]
 | n+1,v=>YJ n (v / 256)++[v % 256]
def num(l:List Int):Int:=l.foldl (λv c=>v * 256+c) 0
theorem Mn(l:List Int)(c:Int):num (l++[c])=num l * 256+c:=by unfold num;grind
theorem UQ(n:Nat)(v:Int):(YJ n v).length=n:=by
 induction n generalizing v with
 | zero=>rfl
 | succ n ih=>grind [List.length_append,YJ]
theorem SV(n:Nat)(v:Int)(h0:0<=v)(h:v < 256 ^ n):num (YJ n v)=v:=by
 induction n generalizing v with
 | zero=>grind [YJ,num]
 | succ n ih=>
  grind [Mn,Int.pow_succ,YJ]
theorem NH(n:Nat)(v:Int):∀c,c∈YJ n v->0<=c/\c < 256:=by
 induction n generalizing v with
 | zero=>grind [YJ]
 | succ n ih=>
  grind [YJ]
theorem Wn{s:za}{c:Int}(h:c∈Q3 s):0<=c/\c < 256:=by
 unfold Q3 at h
 obtain⟨b,_,rfl⟩:=zH.1 h
 have:=b.toNat_lt
 omega
theorem R4{l:List Int}(h:∀c,c∈l->0<=c/\c < 256):Q3 (strOfNums l)=l:=by
 unfold Q3
 rw[strOfNums_data,wJ]
 conv=>rhs;rw[<-List.map_id l]
 refine wn λc hc=>?_
 have:=h c hc
 simp only[Function.comp,id]
 grind [UInt8.toNat_ofNat_of_lt']
theorem YO(s:za):strOfNums (Q3 s)=s:=by
 apply ByteArray.ext
 simp_all [Array.ext',strOfNums_data,wJ,List.map_id,wn,Q3]
theorem KQ(s t:za):Q3 (s++t)=Q3 s++Q3 t:=by
 unfold Q3
 simp_all
theorem S6(s t:List Int):strOfNums (s++t)=strOfNums s++strOfNums t:=by
 grind [ByteArray.ext,Array.ext',ByteArray.data_append,Array.toList_append,strOfNums_data]
theorem W4(l:List Int):(strOfNums l).size=l.length:=strOfNums_size l
theorem Qhg{v:Int}(h0:0<=v)(h:v < 281474976710656):M3 .i64 v 8=v * 256:=by
 show IntKind.i64.wrap (v * 2 ^ (min 8 64))=v * 256
 rw[show (2:Int) ^ (min 8 64)=256 from by decide]
 exact Z3 (by omega) (by omega)
theorem iT{a b:Nat}(ha:a < 9223372036854775808)(hb:b < 9223372036854775808):Zn .i64 a b=((a ||| b:Nat):Int):=by
 have hlt:a ||| b < 9223372036854775808:=Nat.or_lt_two_pow (n:=63) ha hb
 show IntKind.i64.wrap ((BitVec.ofInt 64 a ||| BitVec.ofInt 64 b).toNat:Int)=_
 rw[BitVec.ofInt_natCast,BitVec.ofInt_natCast,BitVec.toNat_or,BitVec.toNat_ofNat,BitVec.toNat_ofNat,Nat.mod_eq_of_lt (by omega),Nat.mod_eq_of_lt (by omega)]
 exact Z3 (by omega) (by omega)
theorem kW{v c:Int}(h0:0<=v)(h:v < 281474976710656)(c0:0<=c)(c1:c < 256):Zn .i64 (M3 .i64 v 8) (Q0 c)=v * 256+c:=by
 rw[Qhg h0 h,Z3 (by omega) (by omega)]
 obtain⟨a,rfl⟩:=Int.eq_ofNat_of_zero_le h0
 obtain⟨b,rfl⟩:=Int.eq_ofNat_of_zero_le c0
 have e:((a:Int) * 256)=((256 * a:Nat):Int):=by omega
 rw[e,iT (by omega) (by omega),<-Nat.two_pow_add_eq_or_of_lt (i:=8) (by omega) a]
 omega
theorem yI{l:List Int}(h:∀c,c∈l->0<=c/\c < 256):0<=num l/\num l < 256 ^ l.length:=by
 have key:∀r:List Int,(∀c,c∈r->0<=c/\c < 256)->0<=num r.reverse/\num r.reverse < 256 ^ r.length:=by
  intro r
  induction r with
  | nil=>intro _;simp[num]
  | cons c r ih=>
   intro hr
   have h1:=ih λx hx=>hr x (List.mem_cons_of_mem _ hx)
   grind [List.mem_cons_self,List.reverse_cons,Mn,List.length_cons,Int.pow_succ]
 grind [List.reverse_reverse,List.length_reverse]
theorem SC{l:List Int}{n:Nat}(h:∀c,c∈l->0<=c/\c < 256)(hn:l.length<=7):0<=num (l.take n)/\(n < l.length->num (l.take n) < 281474976710656):=by
 have h1:=yI (l:=l.take n) (by grind)
 refine⟨h1.1,λhlt=>?_⟩
 have hl:(l.take n).length<=6:=by grind
 have e:∀k:Fin 7,(256:Int) ^ k.val<=281474976710656:=by decide
 have:=e ⟨(l.take n).length,by omega⟩
 grind
theorem GX{l:List Int}{k:Nat}{c:Int}(h:l[k]?=some c):num (l.take (k+1))=num (l.take k) * 256+c:=by
 grind [List.take_add_one,Mn]
theorem xK(s:za)(h:s.size<=7):Qz (eV s) (λr=>r=num (Q3 s)):=by
 have hl:=J3 s
 have hb:∀c,c∈Q3 s->0<=c/\c < 256:=λc hc=>Wn hc
 unfold eV
 show Ok (Qyx s) _
 refine Ok.o rfl ?_
 refine Ok.b (R:=λe=>e=num (Q3 s)) ?_ λe he=>Ok.d he
 refine Ok.s s.size (by omega) (λk y=>k<=s.size/\y=(num ((Q3 s).take k),(k:Int))) ⟨Nat.zero_le _,rfl⟩ (λk y hy hk=>?_) λy hy=>?_
 ·obtain⟨_,rfl⟩:=hy
  refine Ok.t (by simp;omega) ?_
  obtain⟨x,hx,hx'⟩:=E1 (l:=Q3 s) (k:=k) (by omega)
  refine Ok.k (by simp;omega) (Ok.r rfl (x:=x) (by grind) (Ok.d ?_))
  grind [SC,List.mem_of_getElem?,GX,kW,Z8]
 ·obtain⟨_,rfl⟩:=hy
  grind [Ok.f,Ok.d,List.take_length,num,Q3]
theorem extract_size{s:za}{a n:Nat}(h:a+n<=s.size):(s.extract a (a+n)).size=n:=by
 simp_all
theorem Lf(s:za)(a:Nat)(h:a<=s.size):Qz (eR ⟨s,a⟩) (λr=>r=(⟨⟨s,a⟩⟩,0)):=by
 unfold eR
 show Ok (Qyu ⟨s,a⟩) _
 refine Ok.n (R:=λc=>c=false) ?_ λc hc=>?_
 ·grind [Ok.f,Ok.d]
 ·subst hc
  exact Ok.f rfl (Ok.d rfl)
theorem sX(s:za)(a n:Nat)(h:a+n<=s.size)(hn:1<=n)(hn7:n<=7)(hs:s.size<=1000000):Qz (VJ ⟨s,a⟩ (n:Int)) (λr=>r=(num (Q3 (s.extract a (a+n))),⟨s,((a+n:Nat):Int)⟩,0)):=by
 unfold VJ
 show Ok (Qjq ⟨s,a⟩ n) _
 refine Ok.c (R:=λr=>r=(num (Q3 (s.extract a (a+n))),⟨s,((a+n:Nat):Int)⟩,0)) ?_ (by grind [Ok.d])
 unfold nL
 show Ok (cT ⟨s,a⟩ n 1 7) _
 refine Ok.c (Lf s a (by omega)) λr hr=>?_
 subst hr
 refine Ok.f rfl ?_
 refine Ok.n (R:=λc=>c=false) ?_ λc hc=>?_
 ·grind [Ok.f,Ok.d]
 ·subst hc
  have e1:Q0 ((s.size:Int) - (a:Int))=(s.size:Int) - a:=Z3 (by omega) (by omega)
  have e2:Q0 ((a:Int)+(n:Int))=((a+n:Nat):Int):=by grind [Z3]
  refine Ok.f rfl (Ok.f ?_ (Ok.k ?_ (Ok.c (R:=λr=>r=num (Q3 (s.extract a (a+n)))) ?_ λr hr=>Ok.d ?_)))
  ·grind
  ·grind [decide,Q0]
  ·grind [Int.toNat_natCast,xK,extract_size,Qz,eV,Q0]
  grind
theorem sA(s:za)(a n:Nat)(h:a+n<=s.size)(hs:s.size<=1000000):Qz (VU ⟨s,a⟩ (n:Int)) (λr=>r=(s.extract a (a+n),⟨s,((a+n:Nat):Int)⟩,0)):=by
 unfold VU
 show Ok (tE ⟨s,a⟩ n) _
 refine Ok.c (R:=λr=>r=(s.extract a (a+n),⟨s,((a+n:Nat):Int)⟩,0)) ?_ (by grind [Ok.d])
 have em:(if (0:Int) > (n:Int) then (0:Int) else (n:Int))=n:=by grind
 rw[em]
 unfold nG
 show Ok (cV ⟨s,a⟩ n 0 n) _
 refine Ok.c (Lf s a (by omega)) λr hr=>?_
 subst hr
 refine Ok.f rfl ?_
 refine Ok.n (R:=λc=>c=false) ?_ λc hc=>?_
 ·grind [Ok.f,Ok.d]
 ·subst hc
  have e1:Q0 ((s.size:Int) - (a:Int))=(s.size:Int) - a:=Z3 (by omega) (by omega)
  have e2:Q0 ((a:Int)+(n:Int))=((a+n:Nat):Int):=by grind [Z3]
  refine Ok.f rfl (Ok.f ?_ (Ok.k ?_ (Ok.c (R:=λr=>r=s.extract a (a+n)) ?_ λr hr=>Ok.d ?_)))
  ·grind
  ·grind [decide,Q0]
  ·show Qz (Qqv (s.extract (a:Int).toNat ((Q0 ((a:Int)+(n:Int))).toNat))) _
   rw[e2,zL,zL]
   exact Ok.d rfl
  grind
theorem N3(n:Int):Qm n=n % 256:=IntKind.wrap_u8 n
theorem B5(v:Int)(k:Nat)(h:k<=64):Z4 .i64 v (k:Int)=v / 2 ^ k:=by
 show v.fdiv (2 ^ (min (k:Int).toNat 64))=_
 grind
theorem Qz9{n:Nat}{v:Int}{r:Option (za×Int)}{l:List Int}(h0:0<=v)(h:Z4 .i64 v ((8 * n:Nat):Int)=0)(hr:r=(bif decide (v < 0) then some (zd,2) else bif (Z4 .i64 v ((8 * n:Nat):Int) != 0) then some (zd,6) else some (strOfNums l,0)))
  (hl:l=YJ n v):∃x,r=some x/\x=(strOfNums (YJ n v),0):=by
 grind
theorem sP(v:Int)(h0:0<=v)(h:v < 256):Qz (nN 1 v) (λr=>r=(strOfNums (YJ 1 v),0)):=
 Qz9 h0 (by rw[B5 v _ (by decide)];simp;omega) (show (tQ 1 v).run=(bif decide (v < 0) then some (zd,2) else bif (Z4 .i64 v ((8 * 1:Nat):Int) != 0) then some (zd,6) else some (strOfNums [Qm (Z4 .i64 v ((0:Nat):Int))],0)) by kernel_rfl)
  (by grind [N3,B5,YJ])
end Go.Proofs.YtjdieimefebnfaaGreatDoor
