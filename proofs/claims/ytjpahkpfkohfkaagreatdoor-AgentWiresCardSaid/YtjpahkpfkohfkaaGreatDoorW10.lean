/- The pairs of candidates that fit, gathered: a range over a function (a method value), put together by hand. The pairs that wait, set: a range D6 a ma ..; no conditions. -/
import Derived.Test.YtjpahkpfkohfkaaGreatDoorW9
import Derived.Test.YtjpahkpfkohfkaaGreatDoorW8
import Derived.Test.YtjpahkpfkohfkaaGreatDoorW6
import Derived.Test.YtjpahkpfkohfkaaGreatDoorW7
import Derived.KernelRfl
set_option linter.unusedVariables false
set_option linter.unusedSimpArgs false
set_option maxRecDepth 100000
noncomputable section
namespace Go.Proofs.YtjpahkpfkohfkaaGreatDoor
open Go Go.EV
def paC(x:Z2):List V:=[.int .i64 x.fI,.int .i64 x.fL,.int .i64 x.fA,.int .i64 x.gq]
def caC(x:Q6):List V:=[.int .i64 x.fm,.int .i64 x.gi,.int .i64 x.fA,.str x.gf,.str x.fJ.fc,.int .i64 x.fJ.fe,.str x.fZ.fc,.int .i64 x.fZ.fe]
def paO(out:List Z2):V:=.ref 1900070 0 out.length
def paTs:List (Nat×V):=[(6,.ptr 1000006 0 0),(7,.int .i64 0),(8,.ptr 1700061 0 0),(9,.ptr 1000009 0 0),(49,.fn 78 [.ptr 1700061 0 0] [])]
def paL(c:Bool)(ls rs:List Q6)(o:V):List (Nat×Blk):=
 [(1000006,⟨4,true,[[.bool false,.nilsl,.nilsl,.nilsl]]⟩),(1000009,⟨1,true,[[o]]⟩),(1700061,⟨4,true,[[.bool c,.ref 1700062 0 ls.length,.ref 1700063 0 rs.length,.nilsl]]⟩)]
def paT(ls rs:List Q6)(out:List Z2):List BT:=[BT.of 1900070 Q4 4 out true,BT.of 1700062 Q0 8 ls true,BT.of 1700063 Q0 8 rs true]
def paX(ts:List (Nat×V))(c:Bool)(ls rs:List Q6)(out:List Z2):Ext:=Ext.of .normal ts (paL c ls rs (paO out)) (paT ls rs out) (by rfl)
def paB(c:Bool)(ls rs:List Q6)(out:List Z2):List (Nat×Blk):=(paX [] c ls rs out).bs
def cRn:Code->Code
 | .seq _ (.scope (.seq _ (.seq _ (.seq _ (.seq _ (.seq (.seq _ (.block _ c)) _))))))=>c
 | _=>.skip
def paR:Code:=cRn (Tryz.f33.body.getD .skip)
def paAs:Code:=rAssign paR
def paBd:Code:=rBody paR
section
variable (c:Bool) (ls rs:List Q6) (out:List Z2)
def xRa(x:Z2):Ext:=paX ((50,.agg (paC x)) :: paTs) c ls rs out
def xRb(x:Z2):Ext:=Ext.of .normal (paTs++[(10,.ptr 10 0 0)]) ((10,⟨4,true,[paC x]⟩) :: paL c ls rs (paO out)) (paT ls rs out) (by rfl)
def xRd(x:Z2):Ext:=Ext.of .normal [] (paL c ls rs (.ref 54 0 (out++[x]).length)) [BT.of 54 Q4 4 (out++[x]) true,BT.of 1700062 Q0 8 ls true,BT.of 1700063 Q0 8 rs true] (by rfl)
theorem kRa(x:Z2):Y2 Tryz.prog GG [6,7,8,9,10,49] 154 paAs (xRa c ls rs out x) (.done ():TT Unit) (λ_=>xRb c ls rs out x):=by unfold Y2;kernel_rfl
def gRd(x:Z2):TT Unit:=.app 9004 Q4 out [x] 32 false (by grind) (.done ())
theorem kRd(x:Z2):Y2 Tryz.prog GG [54] 154 paBd (xRb c ls rs out x) (gRd out x) (λ_=>xRd c ls rs out x):=by unfold Y2;kernel_rfl
end
theorem mob9{c:Bool}{ls rs:List Q6}{out:List Z2}{x:Z2}{g:St}(h:Gst GG g ((xRd c ls rs out x).D 154).st):Gst GG g (E1 154 (λ_=>.undef) (ofL (paB c ls rs (out++[x])))):=
 Gst.trans h (Gst.mob (lits:=paL c ls rs (.ref 54 0 (out++[x]).length)) (rest:=[(1700062,(BT.of 1700062 Q0 8 ls true).k),(1700063,(BT.of 1700063 Q0 8 rs true).k)]) (kd:=(BT.of 54 Q4 4 (out++[x]) true).k) (d:=54) (m:=1900070) (n:=154)
  (by decide) (by decide) (by decide) (by decide:([1000006,1000009,1700061,54,1700062,1700063]:List Nat).Nodup) (Q4.data _) (by
   intro p hp
   simp only[zT,wg,or_false] at hp
   rcases hp with rfl|rfl
   ·exact Q0.data ls
   ·exact Q0.data rs) (by rfl) (by rfl))
theorem roundMake(c:Bool)(ls rs:List Q6)(out:List Z2)(x:Z2)(hb:(gRd out x).run=some ()) :
  RoundT Tryz.prog GG 154 (tOf paTs) [50] paAs paBd (ofL (paB c ls rs out)) [.agg (paC x)] (λe b'=>e=.normal/\b'=ofL (paB c ls rs (out++[x]))):=by
 refine⟨((xRb c ls rs out x).D 154).st,?_,?_⟩
 ·have h:=(kRa c ls rs out x).tv Q9 (r:=()) rfl (by rfl)
  have e:((xRa c ls rs out x).D 154).st=setP (E1 154 (tOf paTs) (ofL (paB c ls rs out))) ([50].zip [.agg (paC x)]):=by
   rw[O8 (by rfl)]
   exact(setP_susp 154 paTs _ 50 (.agg (paC x))).symm
  rw[e] at h
  exact h
 ·refine((kRd c ls rs out x).tv Q9 hb (by rfl)).mono λe s' hg=>?_
  obtain⟨rfl,g⟩:=hg
  exact⟨_,154,⟨rfl,rfl⟩,mob9 g⟩
def paArgs(l:Nat):List V:=[.ptr 1700061 0 0,.yld l]
def cIt:Code:=Tryz.f78.body.getD .skip
def iR0:Code:=cL cIt
def cOut:Code:=cB (cB (cR cIt))
def iR1:Code:=cL cOut
def cO2:Code:=cB (cL (cR (cR cOut)))
def iR2:Code:=cL cO2
def iR3:Code:=cL (cR cO2)
def cIn:Code:=cB (cB (cR (cR cO2)))
def iR10:Code:=cR (cR (cR cOut))
def iR4:Code:=cL cIn
def cI2:Code:=cB (cL (cR (cR cIn)))
def iR5:Code:=cL cI2
def iR6:Code:=cL (cR cI2)
def iR7:Code:=cL (cR (cR cI2))
def ops8:Array Oper:=rOps (cL (cR (cR (cR cI2))))
def iR9:Code:=cR (cR (cR cIn))
theorem eIt:cIt=.seq iR0 (.block 0 (.loop cOut)):=by kernel_rfl
theorem eOut:cOut=.seq iR1 (.seq (.cond (.tmp 16) .skip (.exit 0)) (.seq (.block 1 (.seq iR2 (.seq iR3 (.block 2 (.loop cIn))))) iR10)):=by kernel_rfl
theorem eIn:cIn=.seq iR4 (.seq (.cond (.tmp 27) .skip (.exit 2)) (.seq (.block 3 (.seq iR5 (.seq iR6 (.seq iR7 (.seq (.region 8 ops8 false) (.cond (.tmp 46) .ret .skip)))))) iR9)):=by kernel_rfl
section
variable (l:Nat) (c:Bool) (ls rs:List Q6)
def tA(i:Int):List (Nat×V):=[(0,.ptr 1700061 0 0),(1,.yld l),(13,.ref 1700062 0 ls.length),(14,.int .i64 (ls.length:Int)),(15,.int .i64 i)]
def tB(i:Int)(a:Q6):List (Nat×V):=tA l ls i++[(4,.int .i64 i),(5,.snap (caC a))]
def tC(i k:Int)(a:Q6):List (Nat×V):=tB l ls i a++[(24,.ref 1700063 0 rs.length),(25,.int .i64 (rs.length:Int)),(26,.int .i64 k)]
def tD(i k:Int)(a:Q6):List (Nat×V):=tC l ls rs i k a++[(6,.int .i64 k),(7,.ptr 7 0 0)]
def tE(i k:Int)(a:Q6):List (Nat×V):=tD l ls rs i k a++[(8,.ptr 8 0 0)]
def xI(out:List Z2):Ext:=paX (H8 (paArgs l)) c ls rs out
def xA(i:Int)(out:List Z2):Ext:=paX (tA l ls i) c ls rs out
def xA1(i:Int)(out:List Z2):Ext:=paX (tA l ls i++[(16,.bool (decide (i < (ls.length:Int))))]) c ls rs out
def xB0(i:Int)(a:Q6)(out:List Z2):Ext:=Ext.of .normal (tA l ls i++[(4,.i i),(5,.ptr 5 0 0)]) ((5,⟨8,true,[caC a]⟩) :: paL c ls rs (paO out)) (paT ls rs out) (by rfl)
def xB(i:Int)(a:Q6)(out:List Z2):Ext:=paX (tB l ls i a) c ls rs out
def xC(i k:Int)(a:Q6)(out:List Z2):Ext:=paX (tC l ls rs i k a) c ls rs out
def xC1(i k:Int)(a:Q6)(out:List Z2):Ext:=paX (tC l ls rs i k a++[(27,.bool (decide (k < (rs.length:Int))))]) c ls rs out
def xD(i k:Int)(a b:Q6)(out:List Z2):Ext:=Ext.of .normal (tD l ls rs i k a) ((7,⟨8,true,[caC b]⟩) :: paL c ls rs (paO out)) (paT ls rs out) (by rfl)
def xE(i k p:Int)(a b:Q6)(out:List Z2):Ext:=Ext.of .normal (tE l ls rs i k a) ((7,⟨8,true,[caC b]⟩) :: (8,⟨4,true,[paC ⟨i,k,p,0⟩]⟩) :: paL c ls rs (paO out)) (paT ls rs out) (by rfl)
def tF(i k p:Int)(f:Bool):List (Nat×V):=bif f then [(41,.bool true),(42,.yld l),(43,.agg (paC ⟨i,k,p,0⟩))] else [(41,.bool false),(42,.tup []),(43,.tup [])]
def xF(i k p:Int)(a b:Q6)(out:List Z2)(f:Bool):Ext:=Ext.of .normal (tE l ls rs i k a++tF l i k p f) ((7,⟨8,true,[caC b]⟩) :: (8,⟨4,true,[paC ⟨i,k,p,0⟩]⟩) :: paL c ls rs (paO out)) (paT ls rs out) (by rfl)
def xG(i k p:Int)(a:Q6)(out:List Z2)(f:Bool):Ext:=paX (tC l ls rs i k a++tF l i k p f) c ls rs out
theorem kR0(out:List Z2):Y2 Tryz.prog GG [0,1,13,14,15] 49 iR0 (xI l c ls rs out) (.done ():TT Unit) (λ_=>xA l c ls rs 0 out):=by unfold Y2;kernel_rfl
theorem kR1(i:Int)(out:List Z2):Y2 Tryz.prog GG [0,1,13,14,15,16] 49 iR1 (xA l c ls rs i out) (.done ():TT Unit) (λ_=>xA1 l c ls rs i out):=by unfold Y2;kernel_rfl
def gR2(i:Int):TT Q6:=.chk 2002 (decide (0<=i)&&decide (i < (ls.length:Int))) (.row 2003 Q0 ls (0+i.toNat) true λx=>.done x)
theorem kR2(i:Int)(out:List Z2):Y2 Tryz.prog GG [0,1,4,5,13,14,15] 49 iR2 (xA l c ls rs i out) (gR2 ls i) (λa=>xB0 l c ls rs i a out):=by unfold Y2;kernel_rfl
theorem kR3(i:Int)(a:Q6)(out:List Z2):Y2 Tryz.prog GG [0,1,4,5,13,14,15,24,25,26] 49 iR3 (xB l c ls rs i a out) (.done ():TT Unit) (λ_=>xC l c ls rs i 0 a out):=by unfold Y2;kernel_rfl
theorem kR4(i k:Int)(a:Q6)(out:List Z2):Y2 Tryz.prog GG [0,1,4,5,13,14,15,24,25,26,27] 49 iR4 (xC l c ls rs i k a out) (.done ():TT Unit) (λ_=>xC1 l c ls rs i k a out):=by unfold Y2;kernel_rfl
def gR5(k:Int):TT Q6:=.chk 5002 (decide (0<=k)&&decide (k < (rs.length:Int))) (.row 5003 Q0 rs (0+k.toNat) true λx=>.done x)
theorem kR5(i k:Int)(a:Q6)(out:List Z2):Y2 Tryz.prog GG [0,1,4,5,6,7,13,14,15,24,25,26] 49 iR5 (xC l c ls rs i k a out) (gR5 rs k) (λb=>xD l c ls rs i k a b out):=by unfold Y2;kernel_rfl
theorem kR6(i k:Int)(a b:Q6)(out:List Z2):Y2 Tryz.prog GG [0,1,4,5,6,7,8,13,14,15,24,25,26] 49 iR6 (xD l c ls rs i k a b out) (.done ():TT Unit) (λ_=>xE l c ls rs i k 0 a b out):=by unfold Y2;kernel_rfl
def gR7(i k:Int):TT Int:=.view 7003 (s156_1 c ls rs (Z2.mk i k 0 0)) [(VwW.o 1700062 Q0 ls),(VwW.o 1700063 Q0 rs)] λr=>.done r
theorem kR7(i k:Int)(a b:Q6)(out:List Z2):Y2 Tryz.prog GG [0,1,4,5,6,7,8,13,14,15,24,25,26] 49 iR7 (xE l c ls rs i k 0 a b out) (gR7 c ls rs i k) (λp=>xE l c ls rs i k p a b out):=by unfold Y2;kernel_rfl
def gR8(a b:Q6):TT Bool:=.call 8003 (s157 a b) [] [] λr=>.br 8005 r (.done true) (.done false)
theorem kR8(i k p:Int)(a b:Q6)(out:List Z2):F6 Tryz.prog GG [0,1,4,5,6,7,8,13,14,15,24,25,26,41,42,43] 49 8 ops8 6 (xE l c ls rs i k p a b out) (gR8 a b) (xF l c ls rs i k p a b out):=by unfold F6;kernel_rfl
theorem kR9(i k:Int)(a:Q6)(out:List Z2):Y2 Tryz.prog GG [0,1,4,5,13,14,15,24,25,26] 49 iR9 (xC l c ls rs i k a out) (.done ():TT Unit) (λ_=>xC l c ls rs i (Q7 (k+1)) a out):=by unfold Y2;kernel_rfl
theorem kR10(i:Int)(out:List Z2):Y2 Tryz.prog GG [0,1,13,14,15] 49 iR10 (xA l c ls rs i out) (.done ():TT Unit) (λ_=>xA l c ls rs (Q7 (i+1)) out):=by unfold Y2;kernel_rfl
end
def P4(c:Bool)(ls rs:List Q6)(i:Int)(a:Q6)(s:Int×List Z2):Option ((Int×List Z2)⊕List Z2):=
 bif decide (s.1 < (rs.length:Int)) then
  (match (gR5 rs s.1).run with
  | none=>none
  | some b=>match (gR7 c ls rs i s.1).run with
   | none=>none
   | some p=>match (gR8 a b).run with
    | none=>none
    | some f=>bif f then (match (gRd s.2 ⟨i,s.1,p,0⟩).run with
      | none=>none
      | some _=>some (.inl (Q7 (s.1+1),s.2++[⟨i,s.1,p,0⟩])))
     else some (.inl (Q7 (s.1+1),s.2)))
 else some (.inr s.2)
def inM(c:Bool)(ls rs:List Q6)(i:Int)(a:Q6)(out:List Z2):Option (List Z2):=S3 (P4 c ls rs i a) FUEL (0,out)
def outStep(c:Bool)(ls rs:List Q6)(s:Int×List Z2):Option ((Int×List Z2)⊕List Z2):=
 bif decide (s.1 < (ls.length:Int)) then
  (match (gR2 ls s.1).run with
  | none=>none
  | some a=>match inM c ls rs s.1 a s.2 with
   | none=>none
   | some out=>some (.inl (Q7 (s.1+1),out)))
 else some (.inr s.2)
def pairsM(c:Bool)(ls rs:List Q6):Option (List Z2):=S3 (outStep c ls rs) FUEL (0,[])
def paYL:YL:=⟨154,tOf paTs,#[50],paAs,paBd⟩
theorem inner(l:Nat)(c:Bool)(ls rs:List Q6)(i:Int)(a:Q6)(out:List Z2){r:List Z2}(h:inM c ls rs i a out=some r){Q:Exit->YS->Prop}
  (hq:∀st,Gst GG st ((xA l c ls rs i r).D 49).st->Q .normal ⟨.normal,st⟩) :
  YT Tryz.prog GG paYL l (.block 2 (.loop cIn)) ⟨.normal,((xC l c ls rs i 0 a out).D 49).st⟩ Q:=by
 refine YT.block ?_
 refine YT.loop (λm s=>s.x=.normal/\∃y:Int×List Z2,Gst GG s.st ((xC l c ls rs i y.1 a y.2).D 49).st/\S3 (P4 c ls rs i a) m y=some r) (λm s hI=>?_) (n:=FUEL) ⟨rfl,(0,out),Gst.same _,h⟩
 obtain⟨x,st⟩:=s
 obtain⟨rfl,⟨k,o⟩,g,hit⟩:=hI
 refine YT.gst g ?_
 cases m with
 | zero=>simp[S3] at hit
 | succ m=>
  rw[iter_succ] at hit
  rw[eIn]
  refine YT.seq (YT.piece (kR4 l c ls rs i k a o) Q9 rfl (by rfl) λs g=>?_)
  show YT _ _ _ _ _ _ _
  refine YT.gst g ?_
  cases hc:decide (k < (rs.length:Int)) with
  | false=>
   have hs0:P4 c ls rs i a (k,o)=some (.inr o):=by grind [P4]
   rw[hs0] at hit
   obtain rfl:o=r:=wq hit
   refine YT.seq (YT.cond (b:=false) (by show some (V.bool (decide (k < (rs.length:Int))))=_;rw[hc]) (YT.exit ?_))
   show Q .normal _
   exact hq _ (E9 (xA l c ls rs i o) (by rfl) rfl ⟨by rfl,by rfl⟩)
  | true=>
   refine YT.seq (YT.cond (b:=true) (by show some (V.bool (decide (k < (rs.length:Int))))=_;rw[hc]) (YT.skip ?_))
   show YT _ _ _ _ _ _ _
   refine YT.gst (st':=((xC l c ls rs i k a o).D 49).st) (E9 (xC l c ls rs i k a o) (by rfl) rfl ⟨by rfl,by rfl⟩) ?_
   cases h5:(gR5 rs k).run with
   | none=>grind [P4]
   | some b=>
   cases h7:(gR7 c ls rs i k).run with
   | none=>grind [P4]
   | some p=>
   cases h8:(gR8 a b).run with
   | none=>grind [P4]
   | some f=>
   have next:∀(o2:List Z2) (st:St),S3 (P4 c ls rs i a) m (Q7 (k+1),o2)=some r->Gst GG st ((xC l c ls rs i k a o2).D 49).st->
     YT Tryz.prog GG paYL l iR9 ⟨.normal,st⟩ (thenY (λs'=>∃m',m' < m+1/\s'.x=.normal/\∃y:Int×List Z2,Gst GG s'.st ((xC l c ls rs i y.1 a y.2).D 49).st/\S3 (P4 c ls rs i a) m' y=some r) (inBlockY 2 Q)):=λo2 st h2 g2=>by
    refine YT.gst g2 ?_
    refine YT.piece (kR9 l c ls rs i k a o2) Q9 rfl (by rfl) λs g=>?_
    exact⟨m,Nat.lt_succ_self m,rfl,(Q7 (k+1),o2),g,h2⟩
   refine YT.seq (YT.block (YT.seq (YT.piece (kR5 l c ls rs i k a o) Q9 h5 (by rfl) λs g=>?_)))
   show YT _ _ _ _ _ _ _
   refine YT.gst g ?_
   refine YT.seq (YT.piece (kR6 l c ls rs i k a b o) Q9 rfl (by rfl) λs g=>?_)
   show YT _ _ _ _ _ _ _
   refine YT.gst g ?_
   refine YT.seq (YT.piece (kR7 l c ls rs i k a b o) Q9 h7 (by rfl) λs g=>?_)
   show YT _ _ _ _ _ _ _
   refine YT.gst g ?_
   refine YT.seq (YT.region ?_)
   show K6 _ _ _ _ _ ([0,1,2,3,4,5]++[6,7,8]) _ _
   refine K6.tv ((kR8 l c ls rs i k p a b o).tv Q9 h8 (by cases f<;>rfl)) λe st hq'=>⟨by rw[hq'.1];cases f<;>rfl,K6.gst hq'.2 ?_⟩
   refine K6.gst (st':=((xG l c ls rs i k p a o f).D 49).st) (by cases f<;>exact E9 _ (by rfl) rfl ⟨by rfl,by rfl⟩) ?_
   cases f with
   | false=>
    have hs0:P4 c ls rs i a (k,o)=some (.inl (Q7 (k+1),o)):=by grind [P4]
    rw[hs0] at hit
    refine K6.step rfl (K6.step rfl (K6.step rfl (K6.nil ?_)))
    show YT _ _ _ _ _ _ _
    refine YT.cond (b:=false) rfl (YT.skip ?_)
    show YT _ _ _ _ _ _ _
    exact next o _ hit (E9 (xC l c ls rs i k a o) (by rfl) rfl ⟨by rfl,by rfl⟩)
   | true=>
    cases hd:(gRd o ⟨i,k,p,0⟩).run with
    | none=>grind [P4]
    | some u=>
    have hs0:P4 c ls rs i a (k,o)=some (.inl (Q7 (k+1),o++[⟨i,k,p,0⟩])):=by grind [P4]
    rw[hs0] at hit
    rw[O8 (x:=xG l c ls rs i k p a o true) (by rfl) 49]
    refine K6.yieldG (hi:=rfl) rfl rfl rfl rfl rfl rfl rfl ?_ ?_ ?_ rfl (roundMake c ls rs o ⟨i,k,p,0⟩ hd) ?_ ?_
    ·exact λi=>tOf_ok (by rfl) i
    ·exact λi=>tOf_ok (by rfl) i
    ·intro p hp
     have:p∈[50]:=hp
     simp at this
     subst this
     exact(by decide:50 < 154)
    ·grind
    ·intro e b' h
     obtain⟨rfl,rfl⟩:=h
     refine K6.step rfl (K6.step rfl (K6.nil ?_))
     show YT _ _ _ _ _ _ _
     refine YT.cond (b:=false) rfl (YT.skip ?_)
     show YT _ _ _ _ _ _ _
     exact next _ _ hit (E9 (xC l c ls rs i k a (o++[⟨i,k,p,0⟩])) (by rfl) rfl ⟨by rfl,by rfl⟩)
theorem iterMake(c:Bool)(ls rs:List Q6){r:List Z2}(h:pairsM c ls rs=some r) :
  IterT Tryz.prog GG cIt 49 paArgs (ofL (paB c ls rs [])) paYL (λe b=>e=.normal/\b=ofL (paB c ls rs r)):=by
 refine IterT.of λl=>?_
 have e0:entry 49 (paArgs l) (ofL (paB c ls rs []))=((xI l c ls rs []).D 49).st:=(entry_ext (x:=xI l c ls rs []) (by rfl) (by rfl) 49).symm
 rw[e0,eIt]
 refine YT.seq (YT.piece (kR0 l c ls rs []) Q9 rfl (by rfl) λs g=>?_)
 show YT _ _ _ _ _ _ _
 refine YT.gst g ?_
 refine YT.block ?_
 refine YT.loop (λm s=>s.x=.normal/\∃y:Int×List Z2,Gst GG s.st ((xA l c ls rs y.1 y.2).D 49).st/\S3 (outStep c ls rs) m y=some r) (λm s hI=>?_) (n:=FUEL) ⟨rfl,(0,[]),Gst.same _,h⟩
 obtain⟨x,st⟩:=s
 obtain⟨rfl,⟨i,o⟩,g,hit⟩:=hI
 refine YT.gst g ?_
 cases m with
 | zero=>simp[S3] at hit
 | succ m=>
  rw[iter_succ] at hit
  rw[eOut]
  refine YT.seq (YT.piece (kR1 l c ls rs i o) Q9 rfl (by rfl) λs g=>?_)
  show YT _ _ _ _ _ _ _
  refine YT.gst g ?_
  cases hc:decide (i < (ls.length:Int)) with
  | false=>
   have hs0:outStep c ls rs (i,o)=some (.inr o):=by grind [outStep]
   rw[hs0] at hit
   obtain rfl:o=r:=wq hit
   refine YT.seq (YT.cond (b:=false) (by show some (V.bool (decide (i < (ls.length:Int))))=_;rw[hc]) (YT.exit ?_))
   refine⟨.inl rfl,49,tOf (xA1 l c ls rs i o).ts,ofL (paB c ls rs o),?_,rfl,rfl⟩
   show Gst GG ((xA1 l c ls rs i o).D 49).st _
   rw[O8 (by rfl) 49]
   exact Gst.same _
  | true=>
   refine YT.seq (YT.cond (b:=true) (by show some (V.bool (decide (i < (ls.length:Int))))=_;rw[hc]) (YT.skip ?_))
   show YT _ _ _ _ _ _ _
   refine YT.gst (st':=((xA l c ls rs i o).D 49).st) (E9 (xA l c ls rs i o) (by rfl) rfl ⟨by rfl,by rfl⟩) ?_
   cases h2:(gR2 ls i).run with
   | none=>grind [outStep]
   | some a=>
   cases h3:inM c ls rs i a o with
   | none=>grind [outStep]
   | some o2=>
   have hs0:outStep c ls rs (i,o)=some (.inl (Q7 (i+1),o2)):=by grind [outStep]
   rw[hs0] at hit
   refine YT.seq (YT.block (YT.seq (YT.piece (kR2 l c ls rs i o) Q9 h2 (by rfl) λs g=>?_)))
   show YT _ _ _ _ _ _ _
   refine YT.gst g ?_
   refine YT.gst (Gst.snapT (t:=5) (b:=5) (k:=⟨8,true,[caC a]⟩) (row:=caC a) rfl rfl rfl (by show 8 < J8;decide) (by simp[caC,H2])) ?_
   refine YT.gst (st':=((xB l c ls rs i a o).D 49).st) (E9 (xB l c ls rs i a o) (by rfl) rfl ⟨by rfl,by rfl⟩) ?_
   refine YT.seq (YT.piece (kR3 l c ls rs i a o) Q9 rfl (by rfl) λs g=>?_)
   show YT _ _ _ _ _ _ _
   refine YT.gst g ?_
   refine inner l c ls rs i a o h3 λst g=>?_
   show YT _ _ _ _ _ _ _
   refine YT.gst g ?_
   refine YT.piece (kR10 l c ls rs i o2) Q9 rfl (by rfl) λs g=>?_
   exact⟨m,Nat.lt_succ_self m,rfl,(Q7 (i+1),o2),g,hit⟩
def paFTs:List (Nat×V):=[(6,.ptr 6 0 0),(7,.int .i64 0),(8,.ptr 700061 0 0),(9,.ptr 9 0 0)]
def paFL(c:Bool)(ls rs:List Q6)(out:List Z2):List (Nat×Blk):=
 [(6,⟨4,true,[[.bool false,.nilsl,.nilsl,.nilsl]]⟩),(9,⟨1,true,[[.ref 900070 0 out.length]]⟩),(700061,⟨4,true,[[.bool c,.ref 700062 0 ls.length,.ref 700063 0 rs.length,.nilsl]]⟩)]
def paFT(ls rs:List Q6)(out:List Z2):List BT:=[BT.of 900070 Q4 4 out true,BT.of 700062 Q0 8 ls true,BT.of 700063 Q0 8 rs true]
def xPa(c:Bool)(ls rs:List Q6)(out:List Z2):Ext:=Ext.of .normal (paFTs++[(49,.fn 78 [.ptr 700061 0 0] [])]) (paFL c ls rs out) (paFT ls rs out) (by rfl)
def ePa(c:Bool)(ls rs:List Q6)(out:List Z2):Ext:=Ext.of .normal paFTs (paFL c ls rs out) (paFT ls rs out) (by rfl)
theorem bsMake(c:Bool)(ls rs:List Q6)(out:List Z2):shB (ofL (xPa c ls rs out).bs)=ofL (paB c ls rs out):=by
 rw[shB_ofL]
 have:((xPa c ls rs out).bs.map λp=>(sh p.1,p.2.ren sh))=paB c ls rs out:=by
  simp only[xPa,Ext.of,paFL,paFT,List.cons_append,List.nil_append,zW,List.map_nil,BT.of,Blk.ren,sh_rows]
  kernel_rfl
 rw[this]
theorem loopMake(c:Bool)(ls rs:List Q6){r:List Z2}(h:pairsM c ls rs=some r) :
  TV Tryz.prog GG (.rangeFunc (.tmp 49) #[50] paAs paBd) ((xPa c ls rs []).D 154).st (λe st=>e=.normal/\Gst GG st ((ePa c ls rs r).D 154).st):=by
 have ht:(λi=>W5 sh (((xPa c ls rs []).D 154).st.t i))=tOf paTs:=by
  have:((xPa c ls rs []).D 154).st.t=tOf (xPa c ls rs []).ts:=rfl
  rw[this,tOf_shift]
  have:((xPa c ls rs []).ts.map λp=>(p.1,W5 sh p.2))=paTs:=by kernel_rfl
  rw[this]
 have hb:Tryz.f78.body=some cIt:=by kernel_rfl
 refine TV.rangeF (f:=78) (fi:=Tryz.f78) (c:=cIt) (first:=[.ptr 1700061 0 0]) (caps:=[]) (R:=λe b=>e=.normal/\b=ofL (paB c ls rs r)) ?_ Tryz.func78 hb (by kernel_rfl) (by kernel_rfl) ?_ (λi=>?_) ?_ ?_
 ·show some ((λi=>W5 sh (((xPa c ls rs []).D 154).st.t i)) 49)=_
  rw[ht];rfl
 ·intro b k hk
  obtain⟨q,h1,rfl,_⟩:=find_b (show ofL (xPa c ls rs []).bs b=some k from hk)
  show (((xPa c ls rs []).us).contains q.1 || uTop q.1)=true
  simp only[Ext.us,wd,wc,zG]
  grind
 ·have:=congrFun ht i
  rw[show W5 sh (((xPa c ls rs []).D 154).st.t i)=tOf paTs i from this]
  exact tOf_ok (by rfl) i
 ·have hbb:shB ((xPa c ls rs []).D 154).st.b=ofL (paB c ls rs []):=bsMake c ls rs []
  rw[ht,hbb]
  have e:max Tryz.f78.ntmps ([V.ptr 1700061 0 0].length+1+([]:List V).length)=49:=by kernel_rfl
  rw[e]
  exact iterMake c ls rs h
 ·intro e b' ho
  obtain⟨rfl,rfl⟩:=ho
  refine⟨.inl rfl,ofL (xPa c ls rs r).bs,(bsMake c ls rs r).symm,?_,rfl,?_⟩
  ·show (X0 154 (xPa c ls rs []).ts (xPa c ls rs r).bs (xPa c ls rs []).us).known
   refine⟨λi b hm=>?_,λi k hk=>?_⟩
   ·have hm':b∈U8 (tOf (xPa c ls rs []).ts i):=hm
    unfold tOf at hm'
    cases hf:(xPa c ls rs []).ts.find? (λp=>p.1==i) with
    | none=>grind [U8]
    | some p=>
     rw[hf] at hm'
     have all:((xPa c ls rs []).ts.all λp=>(U8 p.2).all λb=>(xPa c ls rs []).us.contains b)=true:=by rfl
     have:=zH.1 (zH.1 all p (wU hf)) b hm'
     show ((xPa c ls rs []).us.contains b || uTop b)=true
     rw[this];rfl
   ·obtain⟨q,h1,rfl,rfl⟩:=find_b (show ofL (xPa c ls rs r).bs i=some k from hk)
    have husl:(xPa c ls rs r).us=(xPa c ls rs []).us:=rfl
    refine⟨?_,λb hm=>?_⟩
    ·show ((xPa c ls rs []).us.contains q.1 || uTop q.1)=true
     rw[<-husl]
     simp only[Ext.us,wd,wc,zG]
     grind
    ·have:q∈paFL c ls rs r++(paFT ls rs r).map λx=>(x.id,x.k):=h1
     rcases zU.1 this with h2|h2
     ·have all:((paFL c ls rs r).all λq=>(W1 q.2.rows.flatten).all λb=>(xPa c ls rs []).us.contains b)=true:=by rfl
      have:=zH.1 (zH.1 all q h2) b hm
      show ((xPa c ls rs []).us.contains b || uTop b)=true
      rw[this];rfl
     ·have hdat:=bts_dat _ h2
      rw[hdat.refs] at hm;simp at hm
  ·show Gst GG (X0 154 (xPa c ls rs []).ts (xPa c ls rs r).bs (xPa c ls rs []).us) _
   exact E9 (ePa c ls rs r) (by rfl) rfl ⟨by rfl,by rfl⟩
def subPairs(c:Bool)(ls rs:List Q6):Sub Tryz.prog GG (List Z2):=
 ⟨.rangeFunc (.tmp 49) #[50] paAs paBd,154,xPa c ls rs [],pairsM c ls rs,ePa c ls rs,λ_ h=>loopMake c ls rs h⟩
def cMk:Code:=cB (cR (Tryz.f33.body.getD .skip))
def cWt:Code->Code
 | .seq _ (.seq _ (.seq _ (.seq _ (.seq _ (.seq _ (.seq _ (.seq _ (.seq _ (.seq _ (.seq _ (.seq c _)))))))))))=>c
 | _=>.skip
def wCode:Code:=cWt cMk
def wOps29:Array Oper:=rOps (cL wCode)
def wLoop:Code:=cB (cB (cR wCode))
def wOps30:Array Oper:=rOps (cL wLoop)
def wBody:Code:=cB (cR (cR wLoop))
def wOps31:Array Oper:=rOps (cL wBody)
def wOps32:Array Oper:=rOps (cR wBody)
theorem eWt:wCode=.seq (.region 29 wOps29 false) (.block 6 (.loop (.seq (.region 30 wOps30 false) (.seq (.cond (.tmp 139) .skip (.exit 6)) (.block 7 (.seq (.region 31 wOps31 false) (.region 32 wOps32 false))))))):=by kernel_rfl
def wTs:List (Nat×V):=[(6,.ptr 6 0 0),(7,.int .i64 0),(8,.ptr 700061 0 0)]
def wL(c:Bool)(ls rs:List Q6)(m:Nat):List (Nat×Blk):=[(6,⟨4,true,[[.bool false,.nilsl,.nilsl,.nilsl]]⟩),(700061,⟨4,true,[[.bool c,.ref 700062 0 ls.length,.ref 700063 0 rs.length,.ref 700064 0 m]]⟩)]
def wT(ls rs:List Q6)(s:List Z2):List BT:=[BT.of 700062 Q0 8 ls true,BT.of 700063 Q0 8 rs true,BT.of 700064 Q4 4 s true]
section
variable (c:Bool) (ls rs:List Q6) (m:Nat)
def eW(s:List Z2):Ext:=Ext.of .normal wTs (wL c ls rs m) (wT ls rs s) (by rfl)
def xW(l:List C5)(s:List Z2):Ext:=Ext.of .normal (wTs++[(14,.mp 700065)]) (wL c ls rs m) (wT ls rs s++[BT.of 700065 tySEnt162 1114370 l true]) (by rfl)
def xWi(i:Int)(s:List Z2):Ext:=Ext.of .normal (wTs++[(21,.i i)]) (wL c ls rs m) (wT ls rs s) (by rfl)
def gW(i:Int)(s:List Z2):TT (List Z2):=
 .chk 32007 (decide (0<=i)&&decide (i < (m:Int))) (.row 32009 Q4 s (0+i.toNat) true λx=>
  .re 32009 (ReW.put 700064 4 Q4 s (0+i.toNat) (Z2.mk x.fI x.fL x.fA 1)) (.done (s.set (0+i.toNat) (Z2.mk x.fI x.fL x.fA 1))))
theorem kW(i:Int)(s:List Z2):F6 Tryz.prog GG [6,7,8] 154 32 wOps32 9 (xWi c ls rs m i s) (gW m i s) (λs'=>eW c ls rs m s'):=by unfold F6;kernel_rfl
end
def wSet(m:Nat)(i:Int)(s:List Z2):Option (List Z2):=
 bif decide (0<=i)&&decide (i < (m:Int)) then (match s[i.toNat]? with|some x=>some (s.set i.toNat (Z2.mk x.fI x.fL x.fA 1))|none=>none) else none
theorem gW_run(m:Nat)(i:Int)(s:List Z2):(gW m i s).run=wSet m i s:=by
 unfold gW wSet
 simp only[T.run,zX,cond_true]
 cases (decide (0<=i)&&decide (i < (m:Int))) with
 | false=>rfl
 | true=>simp only[cond_true];cases s[i.toNat]?<;>rfl
theorem wSet_comm(m:Nat)(i j:Int)(s:List Z2):(wSet m i s).bind (wSet m j)=(wSet m j s).bind (wSet m i):=by
 unfold wSet
 cases hi:(decide (0<=i)&&decide (i < (m:Int)))<;>cases hj:(decide (0<=j)&&decide (j < (m:Int)))
 ·rfl
 ·simp only[cond_true,cond_false]
  cases s[j.toNat]?<;>rfl
 ·simp only[cond_true,cond_false]
  cases s[i.toNat]?<;>rfl
 ·simp only[cond_true]
  by_cases e:i.toNat=j.toNat
  ·rw[e]
  ·cases h1:s[i.toNat]? with
   | none=>
    cases h2:s[j.toNat]? with
    | none=>rfl
    | some y=>simp only[Option.bind_none,zP,wX (Ne.symm e),h1]
   | some x=>
    cases h2:s[j.toNat]? with
    | none=>simp only[Option.bind_none,zP,wX e,h2]
    | some y=>simp only[zP,wX e,wX (Ne.symm e),h1,h2,zp];exact List.set_comm _ _ e
def wAll(m:Nat)(l:List C5)(s:List Z2):Option (List Z2):=foldB (λx s=>wSet m x.fv s) l s
theorem loopWait(c:Bool)(ls rs:List Q6)(m:Nat)(l:List C5)(s0:List Z2){r:List Z2}(h:wAll m l s0=some r) :
  TV Tryz.prog GG wCode ((xW c ls rs m l s0).D 154).st (λe st=>e=.normal/\Gst GG st ((eW c ls rs m r).D 154).st):=by
 rw[eWt]
 have key:=TV.rangeMap (P:=Tryz.prog) (G:=GG) (ty:=tySEnt162) (z:=1114370) (b:=700065) (mt:=162) (kt:=163) (et:=3) (n:=154) (ex:=true) (l:=l) (kd:=.i64) (fv:=λx=>x.fv) (i29:=29) (i30:=30) (i31:=31) (i32:=32) (B:=6) (B2:=7) (ops29:=wOps29) (ops30:=wOps30) (ops31:=wOps31) (ops32:=wOps32)
  (tm:=14) (t0:=136) (it:=137) (tn:=138) (tb:=139) (te:=140) (tw:=141) (tv:=21) (st:=((xW c ls rs m l s0).D 154).st) (S:=λs=>((eW c ls rs m s).D 154).st) (body:=λx s=>wSet m x.fv s) (s0:=s0) (r:=r)
  (by kernel_rfl) (by kernel_rfl) (by kernel_rfl) (by kernel_rfl) (by decide) (by decide) (by kernel_rfl) ⟨by decide,by decide⟩ (by decide) rfl rfl rfl (λx=>rfl) (λs=>⟨rfl,rfl,rfl,rfl,rfl,rfl,rfl⟩)
  (E9 (eW c ls rs m s0) (by rfl) rfl ⟨by rfl,by rfl⟩) (λx s s' hs=>?_) (λx y s=>wSet_comm m x.fv y.fv s) h
 ·exact key.mono λe st hq=>⟨hq.1,by rw[hq.2];exact Gst.same _⟩
 ·have e:((eW c ls rs m s).D 154).st.setT 21 (.int .i64 x.fv)=((xWi c ls rs m x.fv s).D 154).st:=by
   refine St.ext' rfl λl=>?_
   cases l with
   | b j=>exact⟨rfl,rfl⟩
   | t j=>
    show (if j=21 then V.int .i64 x.fv else tOf wTs j)=tOf (wTs++[(21,.int .i64 x.fv)]) j
    unfold tOf
    by_cases hj:j=21
    ·subst hj;rfl
    ·rw[if_neg hj,List.find?_append]
     cases wTs.find? (λp=>p.1==j) with
     | some p=>rfl
     | none=>
      have:((21:Nat)==j)=false:=by simpa using λe=>hj e.symm
      simp[this]
  have:=(kW c ls rs m x.fv s).tv Q9 (r:=s') (by rw[gW_run];exact hs) (by rfl)
  rw[<-e] at this
  exact this
def subWait(c:Bool)(ls rs:List Q6)(m:Nat)(l:List C5)(s:List Z2):Sub Tryz.prog GG (List Z2):=
 ⟨wCode,154,xW c ls rs m l s,wAll m l s,eW c ls rs m,λ_ h=>loopWait c ls rs m l s h⟩
def g77(p0:List Q6):TT Unit:=.app 3003 Q0 [] p0 88 true (by intros;rfl) (.done ())
theorem k77y:Y2 Tryz.prog GG [2] 8 (O9 Tryz.f77.body) (Ext.l .normal [(2,.nilsl)] []) (.done ():TT Unit) (λ_=>Ext.l .ret [(2,.nilsl)] []):=by unfold Y2;kernel_rfl
theorem k77r(p0:List Q6):Y2 Tryz.prog GG [0,2,5,6,7] 8 (X9 Tryz.f77.body) (Ext.l .normal [(0,.sl false 8 (List.map Q0.c p0)),(2,.nilsl)] []) (g77 p0) (λ_=>Ext.of .ret [(2,.ref 7 0 ([]++p0).length)] [] [BT.of 7 Q0 8 ([]++p0)] (by rfl)):=by unfold Y2;kernel_rfl
theorem k77(p0:(List Q6)){r:Unit}(h:(g77 p0).run=some r):CallC Tryz.prog GG 77 [.sl false 8 (List.map Q0.c p0)] (ofL []) (.ref 7 0 p0.length) (ofL [(7,⟨8,true,List.map Q0.c p0⟩)]):=
 clone_ok (ty:=Q0) (ops0:=cloneOps0 Tryz.f77.body) (ops1:=cloneOps1 Tryz.f77.body) (yes:=O9 Tryz.f77.body) (rest:=X9 Tryz.f77.body) (t:=27) Q9 (by decide) Tryz.func77 (by kernel_rfl) (by kernel_rfl) (by kernel_rfl) (by kernel_rfl) (by kernel_rfl) (by kernel_rfl) (by kernel_rfl) (by kernel_rfl) (by kernel_rfl) k77y (k77r p0) (by rfl) h
def s77(p0:List Q6):Sp Unit:=⟨77,[Sl 8 Q0 p0],[],(g77 p0).run,λ_=>Rf 7 p0,λ_=>[(7,⟨8,true,List.map Q0.c p0⟩)],[7],λ_ p hp _=>by rw[we.1 hp];exact Q0.data _,λ_ h=>k77 p0 h⟩
def s83(p0:N4)(p1:Z2):Sp (S2String):=.ofFn 83 Q9 Tryz.func83 (show FnD Pg GG [0,1,3,4] Tryz.f83 [.snap [.bool p0.fh.fq,Sl 8 Q0 p0.fh.fB,Sl 8 Q0 p0.fh.fC,Sl 4 Q4 p0.fh.fD],.agg (Q4.c p1)] (.row 1008 Q0 p0.fh.fB p1.fI.toNat (decide (0<=p1.fI)) λx372=>.row 1018 Q0 p0.fh.fC p1.fL.toNat (decide (0<=p1.fL)) λx373=>.done (S2String.mk x372.gf x373.gf):TT (S2String)) (λr=>.agg [.str r.a0,.str r.a1]) by unfold FnD;kernel_rfl)
def s33(p0 p1:List Q6)(p2:Bool):Sp (H6×Int):=.ofFn 33 Q9 Tryz.func33 (show FnD Pg GG [0,1,2,6,7,8,9,10,11,13,14,15,16,17,18,19,21,29,38,49,50,58,59,60,61,70,75,98,99,100,101,131,139] Tryz.f33 [Sl 8 Q0 p0,Sl 8 Q0 p1,.bool p2] (.cnd 1 [29] (.br 1005 (decide ((12:Int) < (Y6 Q0 p0))) (.fail) (.done (decide ((12:Int) < (Y6 Q0 p1))))) zg λc343=>.br 0 c343 (.fail) (.cnd 3 [38] (.call 3002 (s76 p0) [] [] λr344=>.br 3005 (!r344) (.fail) (.call 3006 (s76 p1) [] [] λr345=>.done (!r345))) zg λc346=>.br 0 c346 (.fail) (.call 5003 (s77 p0) [] [(7,500050)] λr347=>.call 5005 (s77 p1) [] [(7,500051)] λr348=>.gh 1 (.ren 47 700061) (.gh 1 (.ren 500050 700062) (.gh 1 (.ren 500051 700063) (.gh 1 (.virtC 900070 9 0 4) (.sub (subPairs p2 p0 p1) λr349=>.call 10002 (s79 r349.length r349) [(zo,900070)] [] λr360=>.opr 11001 (Rule.makeMap 158 57 1114373 (by decide)) λ_=>.gh 1 (.virtC wn 700061 3 4) (.bind 0 (.lp (λ(l365:(List SEnt158)×(List Z2)×Int)=>Ext.of .normal [(6,.ptr 6 0 0),(7,.i 0),(8,.ptr 700061 0 0),(11,.mp 57),(58,Rf 900070 r349),(59,.i (r349.length:Int)),(60,.i l365.2.2)] [(6,⟨4,true,[[.bool false,.nilsl,.nilsl,.nilsl]]⟩),(700061,⟨4,true,[[.bool p2,Rf 700062 p0,Rf 700063 p1,Rf wn l365.2.1]]⟩)] [Bt 57 tySEnt158 1114373 l365.1,Bt wn Q4 4 l365.2.1,Bt 700062 Q0 8 p0,Bt 700063 Q0 8 p1,Bt 900070 Q4 4 r360] (by rfl)) (λl365=>.br 0 (decide (l365.2.2 < (r349.length:Int))) (.chk 14001 (bD l365.2.2 r349.length) (.row 14002 Q4 r360 (0+l365.2.2.toNat) true λx366=>.br 0 ((l365.2.1.length:Int)==36) (.fail) (.view 16004 (s82 (N4.mk (H6.mk p2 p0 p1 l365.2.1)) x366) [(VwW.o 700062 Q0 p0),(VwW.o 700063 Q0 p1),(VwW.o wn Q4 l365.2.1)] λr367=>.opr 16005 (Rule.look (mt:=158) (kt:=160) (et:=4) (z:=1114373) (ty:=tySEnt158) (p:=(λx=>((decide (r367.fM.fc=x.fk.fM.fc))&&((r367.fM.fe==x.fk.fM.fe)&&((decide (r367.fN.fc=x.fk.fN.fc))&&((r367.fN.fe==x.fk.fN.fe)&&((r367.gg==x.fk.gg)&&true))))))) (kc:=[.str r367.fM.fc,.int .i64 r367.fM.fe,.str r367.fN.fc,.int .i64 r367.fN.fe,.int .i64 r367.gg]) (.tmp 71) (.tmp 74) 75 57 true l365.1 (.bool false) (.bool (V5 l365.1 (λx=>((decide (r367.fM.fc=x.fk.fM.fc))&&((r367.fM.fe==x.fk.fM.fe)&&((decide (r367.fN.fc=x.fk.fN.fc))&&((r367.fN.fe==x.fk.fN.fe)&&((r367.gg==x.fk.gg)&&true)))))) (λx=>x.fv) false)) ⟨by kernel_rfl,by kernel_rfl,by kernel_rfl,λ_=>by kernel_rfl⟩ (by kernel_rfl) (mlook_map _ _ (λx:SEnt158=>x.fv) false V.bool)) λ_=>.br 0 (V5 l365.1 (λx=>((decide (r367.fM.fc=x.fk.fM.fc))&&((r367.fM.fe==x.fk.fM.fe)&&((decide (r367.fN.fc=x.fk.fN.fc))&&((r367.fN.fe==x.fk.fN.fe)&&((r367.gg==x.fk.gg)&&true)))))) (λx=>x.fv) false) (.fail) (.view 17004 (s82 (N4.mk (H6.mk p2 p0 p1 l365.2.1)) x366) [(VwW.o 700062 Q0 p0),(VwW.o 700063 Q0 p1),(VwW.o wn Q4 l365.2.1)] λr368=>.opr 17005 (Rule.put (mt:=158) (kt:=160) (et:=4) (z:=1114373) (ty:=tySEnt158) (p:=(λx=>((decide (r368.fM.fc=x.fk.fM.fc))&&((r368.fM.fe==x.fk.fM.fe)&&((decide (r368.fN.fc=x.fk.fN.fc))&&((r368.fN.fe==x.fk.fN.fe)&&((r368.gg==x.fk.gg)&&true))))))) (kc:=[.str r368.fM.fc,.int .i64 r368.fM.fe,.str r368.fN.fc,.int .i64 r368.fN.fe,.int .i64 r368.gg]) (.tmp 76) (.tmp 79) (.const (.bool true)) 57 l365.1 (SEnt158.mk r368 true) [.bool true] ⟨by kernel_rfl,by kernel_rfl,by kernel_rfl,λ_=>by kernel_rfl⟩ (by rfl) (by kernel_rfl) (by kernel_rfl) (by decide) (by decide)) λ_=>.app 18009 Q4 l365.2.1 [x366] 32 false (by intro h;cases h) (.gh 0 (.drop [wn]) (.gh 0 (.ren 88 wn) (.done (.inl ((mput l365.1 (λx=>((decide (r368.fM.fc=x.fk.fM.fc))&&((r368.fM.fe==x.fk.fM.fe)&&((decide (r368.fN.fc=x.fk.fN.fc))&&((r368.fN.fe==x.fk.fN.fe)&&((r368.gg==x.fk.gg)&&true)))))) (SEnt158.mk r368 true)),(l365.2.1++[x366]),(Q7 (l365.2.2+1))))))))))) (.done (.inr l365.2.1))) ([],[],0)) (λ(e369:(List Z2))=>Ext.of (.exit 2) [(6,.ptr 6 0 0),(7,.i 0),(8,.ptr 700061 0 0)] [(6,⟨4,true,[[.bool false,.nilsl,.nilsl,.nilsl]]⟩),(700061,⟨4,true,[[.bool p2,Rf 700062 p0,Rf 700063 p1,Rf wn e369]]⟩)] [Bt wn Q4 4 e369,Bt 700062 Q0 8 p0,Bt 700063 Q0 8 p1] (by rfl)) (λe369=>.opr 20001 (Rule.makeMap 162 93 1114370 (by decide)) λ_=>.bind 1 (.lp (λ(l377:(List C5)×Int)=>Ext.of .normal [(6,.ptr 6 0 0),(7,.i 0),(8,.ptr 700061 0 0),(14,.mp 93),(98,Rf wn e369),(99,.i (e369.length:Int)),(100,.i l377.2)] [(6,⟨4,true,[[.bool false,.nilsl,.nilsl,.nilsl]]⟩),(700061,⟨4,true,[[.bool p2,Rf 700062 p0,Rf 700063 p1,Rf wn e369]]⟩)] [Bt 93 tySEnt162 1114370 l377.1,Bt wn Q4 4 e369,Bt 700062 Q0 8 p0,Bt 700063 Q0 8 p1] (by rfl)) (λl377=>.br 0 (decide (l377.2 < (e369.length:Int))) (.chk 23002 (bD l377.2 e369.length) (.row 23003 Q4 e369 (0+l377.2.toNat) true λx378=>.view 24003 (s83 (N4.mk (H6.mk p2 p0 p1 e369)) x378) [(VwW.o 700062 Q0 p0),(VwW.o 700063 Q0 p1),(VwW.o wn Q4 e369)] λr379=>.opr 25003 (Rule.look2 (mt:=162) (kt:=163) (et:=3) (z:=1114370) (ty:=tySEnt162) (p:=(λx=>((decide (r379.a0=x.fk.a0))&&((decide (r379.a1=x.fk.a1))&&true)))) (kc:=[.str r379.a0,.str r379.a1]) (.tmp 109) (.tmp 110) 111 93 true l377.1 (.int .i64 0) (.int .i64 (V5 l377.1 (λx=>((decide (r379.a0=x.fk.a0))&&((decide (r379.a1=x.fk.a1))&&true))) (λx=>x.fv) 0)) ⟨by kernel_rfl,by kernel_rfl,by kernel_rfl,λ_=>by kernel_rfl⟩ (by kernel_rfl) (mlook_map _ _ (λx:C5=>x.fv) 0 (V.int .i64))) λ_=>.cnd 26 [131] (.br 26004 (!(l377.1.findIdx? (λx=>((decide (r379.a0=x.fk.a0))&&((decide (r379.a1=x.fk.a1))&&true)))).isSome) (.done true) (.fail)) zg λc383=>.br 0 c383 (.opr 27004 (Rule.put (mt:=162) (kt:=163) (et:=3) (z:=1114370) (ty:=tySEnt162) (p:=(λx=>((decide (r379.a0=x.fk.a0))&&((decide (r379.a1=x.fk.a1))&&true)))) (kc:=[.str r379.a0,.str r379.a1]) (.tmp 132) (.tmp 133) (.tmp 134) 93 l377.1 (C5.mk r379 l377.2) [.int .i64 l377.2] ⟨by kernel_rfl,by kernel_rfl,by kernel_rfl,λ_=>by kernel_rfl⟩ (by rfl) (by kernel_rfl) (by kernel_rfl) (by decide) (by decide)) λ_=>.done (.inl ((mput l377.1 (λx=>((decide (r379.a0=x.fk.a0))&&((decide (r379.a1=x.fk.a1))&&true))) (C5.mk r379 l377.2)),(Q7 (l377.2+1))))) (.fail))) (.done (.inr l377.1))) ([],0)) (λ(e384:(List C5))=>Ext.of (.exit 4) [(6,.ptr 6 0 0),(7,.i 0),(8,.ptr 700061 0 0),(14,.mp 93)] [(6,⟨4,true,[[.bool false,.nilsl,.nilsl,.nilsl]]⟩),(700061,⟨4,true,[[.bool p2,Rf 700062 p0,Rf 700063 p1,Rf wn e369]]⟩)] [Bt 93 tySEnt162 1114370 e384,Bt wn Q4 4 e369,Bt 700062 Q0 8 p0,Bt 700063 Q0 8 p1] (by rfl)) (λe384=>.gh 1 (.ren wn 700064) (.gh 1 (.ren 93 700065) (.sub (subWait p2 p0 p1 e369.length e384 e369) λr385=>.gh 0 (.share (VwW.o 700062 Q0 p0) 1) (.gh 0 (.share (VwW.o 700063 Q0 p1) 1) (.gh 0 (.share (VwW.part 700064 Q4 r385 e369.length) 1) (.done ((H6.mk p2 p0 p1 (r385.take e369.length)),0))))))))))))))):TT (H6×Int)) (λr=>.tup [.agg [.bool r.1.fq,Sl 8 Q0 r.1.fB,Sl 8 Q0 r.1.fC,Sl 4 Q4 r.1.fD],.int .i64 r.2]) by unfold FnD;kernel_rfl)
def g89(p0:List Z2):TT Unit:=.app 3003 Q4 [] p0 32 true (by intros;rfl) (.done ())
theorem k89y:Y2 Tryz.prog GG [2] 8 (O9 Tryz.f89.body) (Ext.l .normal [(2,.nilsl)] []) (.done ():TT Unit) (λ_=>Ext.l .ret [(2,.nilsl)] []):=by unfold Y2;kernel_rfl
theorem k89r(p0:List Z2):Y2 Tryz.prog GG [0,2,5,6,7] 8 (X9 Tryz.f89.body) (Ext.l .normal [(0,.sl false 4 (List.map Q4.c p0)),(2,.nilsl)] []) (g89 p0) (λ_=>Ext.of .ret [(2,.ref 7 0 ([]++p0).length)] [] [BT.of 7 Q4 4 ([]++p0)] (by rfl)):=by unfold Y2;kernel_rfl
theorem k89(p0:(List Z2)){r:Unit}(h:(g89 p0).run=some r):CallC Tryz.prog GG 89 [.sl false 4 (List.map Q4.c p0)] (ofL []) (.ref 7 0 p0.length) (ofL [(7,⟨4,true,List.map Q4.c p0⟩)]):=
 clone_ok (ty:=Q4) (ops0:=cloneOps0 Tryz.f89.body) (ops1:=cloneOps1 Tryz.f89.body) (yes:=O9 Tryz.f89.body) (rest:=X9 Tryz.f89.body) (t:=28) Q9 (by decide) Tryz.func89 (by kernel_rfl) (by kernel_rfl) (by kernel_rfl) (by kernel_rfl) (by kernel_rfl) (by kernel_rfl) (by kernel_rfl) (by kernel_rfl) (by kernel_rfl) k89y (k89r p0) (by rfl) h
def s89(p0:List Z2):Sp Unit:=⟨89,[Sl 4 Q4 p0],[],(g89 p0).run,λ_=>Rf 7 p0,λ_=>[(7,⟨4,true,List.map Q4.c p0⟩)],[7],λ_ p hp _=>by rw[we.1 hp];exact Q4.data _,λ_ h=>k89 p0 h⟩
def g162(p0:H6):TT ((Unit)⊕(Unit)):=.view 2002 (s160 (N4.mk p0)) [] λr386=>.br 0 (!r386) (.fail) (.call 4004 (s89 p0.fD) [] [(7,500054)] λr387=>.done (.inr ()))
def s162(p0:H6):Sp ((Unit)⊕(Unit)):=.ofFnB 162 [500054] Q9 Tryz.func162 rfl (λr=>by cases r<;>rfl) (show FnB Pg GG [0,1,2,3,4,10] Tryz.f162 [.agg [.bool p0.fq,Sl 8 Q0 p0.fB,Sl 8 Q0 p0.fC,Sl 4 Q4 p0.fD]] (Ext.of .normal (H8 [.agg [.bool p0.fq,Sl 8 Q0 p0.fB,Sl 8 Q0 p0.fC,Sl 4 Q4 p0.fD]]) [] [] (by rfl)) (g162 p0) (Sum.elim (λ(r:Unit)=>.tup [.nilp,.i 100]) (λ(r:Unit)=>.tup [.ptr 7 0 0,.i 0])) (Sum.elim (λ(r:Unit)=>Ext.of .normal [] [] [] (by rfl)) (λ(r:Unit)=>Ext.of .normal [] [(7,⟨4,true,[[.bool p0.fq,Sl 8 Q0 p0.fB,Sl 8 Q0 p0.fC,Rf 500054 p0.fD]]⟩)] [Bt 500054 Q4 4 p0.fD] (by rfl))) by unfold FnB;kernel_rfl)
def s165(p0:Z2):Sp (Bool):=.ofFn 165 Q9 Tryz.func165 (show FnD Pg GG [0,1,2] Tryz.f165 [.agg (Q4.c p0)] (.done (p0.gq==1):TT (Bool)) (λr=>.bool r) by unfold FnD;kernel_rfl)
def s164(p0:List Z2):Sp (Int):=.ofFn 164 Q9 Tryz.func164 (show FnD Pg GG [0,1,2,6,7,8,9,10,11,12,13,35] Tryz.f164 [Sl 4 Q4 p0,.fn 165 [] [],.fn 163 [] []] (.bind 1 (.lp (λ(l394:Int×Int)=>Ext.l .normal [(0,Sl 4 Q4 p0),(1,.fn 165 [] []),(2,.fn 163 [] []),(6,.i 0),(7,.i l394.1),(10,Sl 4 Q4 p0),(11,.i (Y6 Q4 p0)),(12,.i l394.2)] []) (λl394=>.br 0 (decide (l394.2 < (Y6 Q4 p0))) (.row 4002 Q4 p0 l394.2.toNat (decide (0<=l394.2)) λx395=>.cnd 5 [35] (.call 5003 (s165 x395) [] [] λr396=>.br 5005 r396 (.br 5008 (decide (l394.1 < 0)) (.done true) (.fail)) (.fail)) zg λc400=>.br 0 c400 (.done (.inl (l394.2,(Q7 (l394.2+1))))) (.fail)) (.done (.inr l394.1))) ((-1),0)) (λ(e401:Int)=>Ext.l (.exit 0) [(6,.i 0),(7,.i e401)] []) (λe401=>.done e401):TT (Int)) (λr=>.int .i64 r) by unfold FnD;kernel_rfl)
def s93(p0:H6):Sp (Int×Int):=.ofFn 93 Q9 Tryz.func93 (show FnD Pg GG [0,1,2,3,4,5,6,7,8,10,17,27,33,34,35,36,41,56] Tryz.f93 [.agg [.bool p0.fq,Sl 8 Q0 p0.fB,Sl 8 Q0 p0.fC,Sl 4 Q4 p0.fD]] (.call2 1002 (s162 p0) [] [(7,500055),(500054,500056)] (λ_=>.fail) (λr389=>.ff (.view 5007 (s164 p0.fD) [(VwW.o 500056 Q4 p0.fD)] λr402=>.bind 0 (.br 0 (decide (r402 < 0)) (.fail) (.done r402)) (λ(e423:Int)=>Ext.l .normal [(2,.i 0),(3,.i 0),(7,.i e423)] []) (λe423=>.br 0 (decide (e423 < 0)) (.fail) (.done (e423,0))))):TT (Int×Int)) (λr=>.tup [.int .i64 r.1,.int .i64 r.2]) by unfold FnD;kernel_rfl)
structure SCheck where
 gv:Int
 gx:Bool
structure SEnt230 where
 fk:SCheck
 fv:Bool
structure Z7 where
 fj:Int
 gm:Int
 gC:Int
 gD:Int
 fE:Bool
 fq:Bool
structure J7 where
 fh:H6
 fw:Int
 gc:Int
 fY:Int
 ga:Int
 gb:Int
 fT:(List Int)
 fX:(List Bool)
 fO:(List Z7)
structure H0 where
 fR:Z4
 fU:Z4
 fy:SProbe
def Q5:Ty Bool:=⟨λx=>[.bool x],λx=>[.bool x],λ_=>rfl,λ_=>rfl,λ_ _=>rfl,λ_=>rfl⟩
def tySEnt230:Ty SEnt230:=⟨λx=>[.i x.fk.gv,.bool x.fk.gx,.bool x.fv],λx=>[.i x.fk.gv,.bool x.fk.gx,.bool x.fv],λ_=>rfl,λ_=>rfl,λ_ _=>rfl,λ_=>rfl⟩
def Z0:Ty Int:=⟨λx=>[.i x],λx=>[.i x],λ_=>rfl,λ_=>rfl,λ_ _=>rfl,λ_=>rfl⟩
def Q8:Ty Z7:=⟨λx=>[.i x.fj,.i x.gm,.i x.gC,.i x.gD,.bool x.fE,.bool x.fq],λx=>[.i x.fj,.i x.gm,.i x.gC,.i x.gD,.bool x.fE,.bool x.fq],λ_=>rfl,λ_=>rfl,λ_ _=>rfl,λ_=>rfl⟩
def Y7:Ty H0:=⟨λx=>[.str x.fR.fc,.i x.fR.fe,.str x.fU.fc,.i x.fU.fe,.i x.fy.fm,.i x.fy.fj,.i x.fy.fA,.bool x.fy.fq,.i x.fy.fw,.bool x.fy.fE,.str x.fy.ft.fc,.i x.fy.ft.fe],λx=>[.str x.fR.fc,.i x.fR.fe,.str x.fU.fc,.i x.fU.fe,.i x.fy.fm,.i x.fy.fj,.i x.fy.fA,.bool x.fy.fq,.i x.fy.fw,.bool x.fy.fE,.str x.fy.ft.fc,.i x.fy.ft.fe],λ_=>rfl,λ_=>rfl,λ_ _=>rfl,λ_=>rfl⟩
def s85(p0:Q6):Sp (Bool):=.ofFn 85 Q9 Tryz.func85 (show FnD Pg GG [0,1,2] Tryz.f85 [.agg (Q0.c p0)] (.done (p0.gi != 1):TT (Bool)) (λr=>.bool r) by unfold FnD;kernel_rfl)
def s102_1(p0:List Q6):Sp (Int):=.ofFn 102 Q9 Tryz.func102 (show FnD Pg GG [0,1,4,5,7,8,9,16] Tryz.f102 [Sl 8 Q0 p0,.fn 85 [] []] (.bind2 1 (.lp (λ(l459:Int)=>Ext.l .normal [(0,Sl 8 Q0 p0),(1,.fn 85 [] []),(4,.i 0),(7,.i (Y6 Q0 p0)),(8,.i l459)] []) (λl459=>.br 0 (decide (l459 < (Y6 Q0 p0))) (.row 4004 Q0 p0 l459.toNat (decide (0<=l459)) λx460=>.call 4006 (s85 x460) [] [] λr461=>.br 0 r461 (.fail) (.done (.inl (Q7 (l459+1))))) (.done (.inr (.inr ())))) 0) (λ(e462:Int)=>Ext.l .ret [(4,.i e462)] []) (λ(e463:Unit)=>Ext.l (.exit 0) [(4,.i 0)] []) (λ_=>.fail) (λe463=>.done (-1)):TT (Int)) (λr=>.int .i64 r) by unfold FnD;kernel_rfl)
def s50(p0:List Q6):Sp (Int):=.ofFn 50 Q9 Tryz.func50 (show FnD Pg GG [0,1,4] Tryz.f50 [Sl 8 Q0 p0,.fn 85 [] []] (.call 1003 (s102_1 p0) [] [] λr464=>.done r464:TT (Int)) (λr=>.int .i64 r) by unfold FnD;kernel_rfl)
def s88(p0:Bool)(p1 p2:List Q6)(p3:List Z2)(p4 p5 p6 p7 p8:Int)(p9:List Bool):Sp (Bool):=.ofFn 88 Q9 Tryz.func88 (show FnD Pg GG [0,2,3,4,6,12,13,14,15,75] Tryz.f88 [.snap [.bool p0,Sl 8 Q0 p1,Sl 8 Q0 p2,Sl 4 Q4 p3,.i p4,.i p5,.i p6,.i p7,.i p8,.nilsl,Sl 1 Q5 p9,.nilsl,.nilsl]] (.opr 1001 (Rule.makeMap 230 7 1114370 (by decide)) λ_=>.ff (.done true):TT (Bool)) (λr=>.bool r) by unfold FnD;kernel_rfl)
def s34(p0:Bool)(p1 p2:List Q6)(p3:List Z2)(p4 p5 p6 p7 p8:Int)(p9:List Bool):Sp (Bool):=.ofFn 34 Q9 Tryz.func34 (show FnD Pg GG [0,2,3,4,5,6,35,97,120,125,126,127,128,147] Tryz.f34 [.snap [.bool p0,Sl 8 Q0 p1,Sl 8 Q0 p2,Sl 4 Q4 p3,.i p4,.i p5,.i p6,.i p7,.i p8,.nilsl,Sl 1 Q5 p9,.nilsl,.nilsl]] (.cnd 2 [35] (.call 2006 (s86 (H6.mk p0 p1 p2 p3)) [] [] λr455=>.br 2009 (r455 != 0) (.fail) (.call 2016 (s50 p1) [] [] λr465=>.br 2020 (decide ((0:Int)<=r465)) (.fail) (.call 2027 (s50 p2) [] [] λr466=>.done (decide ((0:Int)<=r466))))) zg λc467=>.br 0 c467 (.fail) (.cnd 5 [97] (.call 5006 (s39 p4 0 281474976710655) [] [] λr468=>.br 5009 (!r468) (.fail) (.call 5014 (s39 p5 0 1099511627776) [] [] λr469=>.br 5018 (!r469) (.fail) (.call 5023 (s39 p6 0 1099511627826) [] [] λr470=>.br 5027 (!r470) (.fail) (.call 5032 (s39 p7 0 1099511627776) [] [] λr471=>.br 5036 (!r471) (.fail) (.br 5046 ((Y6 Q5 p9) != (Y6 Q4 p3)) (.fail) (.call 5053 (s39 p8 (-1) (Q7 ((Y6 Q4 p3) - 1))) [] [] λr472=>.done (!r472))))))) zg λc473=>.br 0 c473 (.fail) (.cnd 7 [120] (.br 7008 (decide ((0:Int)<=p8)) (.fail) (.done false)) zg λc475=>.br 0 c475 (.fail) (.ff (.call 15002 (s88 p0 p1 p2 p3 p4 p5 p6 p7 p8 p9) [] [] λr476=>.done r476)))):TT (Bool)) (λr=>.bool r) by unfold FnD;kernel_rfl)
def g9(p0 p1:List Q6)(p2:Bool)(p3 p4:Int):TT (J7×Int):=.call 1004 (s33 p0 p1 p2) [] [] λr454=>.br 0 (r454.2 != 0) (.done ((J7.mk (H6.mk false [] [] []) 0 0 0 0 0 [] [] []),r454.2)) (.opr 4008 (Rule.makeD (ty:=Q5) (t:=32) (e:=4) (zv:=.bool false) (zc:=.bool false) false (.tmp 33) (.tmp 33) 34 (Y6 Q4 r454.1.fD) (Y6 Q4 r454.1.fD) 1 (by kernel_rfl) (by kernel_rfl) (by kernel_rfl) rfl ⟨rfl,rfl,rfl⟩ (λ_ _=>by constructor)) λ_=>.gh 7 (.len 34 ((List.replicate (Y6 Q4 r454.1.fD).toNat false).length) [(Y6 Q4 r454.1.fD).toNat] (by simp)) (.view 6002 (s34 r454.1.fq r454.1.fB r454.1.fC r454.1.fD p3 p4 p4 0 (-1) (List.replicate (Y6 Q4 r454.1.fD).toNat false)) [(VwW.o 34 Q5 (List.replicate (Y6 Q4 r454.1.fD).toNat false))] λr477=>.br 0 (!r477) (.done ((J7.mk (H6.mk false [] [] []) 0 0 0 0 0 [] [] []),2)) (.gh 0 (.share (VwW.o 34 Q5 (List.replicate (Y6 Q4 r454.1.fD).toNat false)) 2) (.done ((J7.mk r454.1 p3 p4 p4 0 (-1) [] (List.replicate (Y6 Q4 r454.1.fD).toNat false) []),0)))))
def s161(p0:List Int)(p1:Int):Sp (Int):=.ofFn 161 Q9 Tryz.func161 (show FnD Pg GG [0,1,4,5,7,8,9,16] Tryz.f161 [Sl 1 Z0 p0,.i p1] (.bind2 1 (.lp (λ(l495:Int)=>Ext.l .normal [(0,Sl 1 Z0 p0),(1,.i p1),(4,.i 0),(7,.i (Y6 Z0 p0)),(8,.i l495)] []) (λl495=>.br 0 (decide (l495 < (Y6 Z0 p0))) (.fail) (.done (.inr (.inr ())))) 0) (λ(e497:Int)=>Ext.l .ret [(4,.i e497)] []) (λ(e498:Unit)=>Ext.l (.exit 0) [(4,.i 0)] []) (λ_=>.fail) (λe498=>.done (-1)):TT (Int)) (λr=>.int .i64 r) by unfold FnD;kernel_rfl)
def s87(p0:List Int)(p1:Int):Sp (Bool):=.ofFn 87 Q9 Tryz.func87 (show FnD Pg GG [0,1,4] Tryz.f87 [Sl 1 Z0 p0,.i p1] (.call 1003 (s161 p0 p1) [] [] λr499=>.done (decide ((0:Int)<=r499)):TT (Bool)) (λr=>.bool r) by unfold FnD;kernel_rfl)
def s88_1(p0:Bool)(p1 p2:List Q6)(p3:List Z2)(p4 p5 p6 p7 p8:Int)(p9:List Int)(p10:List Bool)(p11:List Z7):Sp (Bool):=.ofFn 88 Q9 Tryz.func88 (show FnD Pg GG [0,2,3,4,6,12,13,14,15,75] Tryz.f88 [.snap [.bool p0,Sl 8 Q0 p1,Sl 8 Q0 p2,Sl 4 Q4 p3,.i p4,.i p5,.i p6,.i p7,.i p8,Sl 1 Z0 p9,Sl 1 Q5 p10,Sl 6 Q8 p11,.nilsl]] (.opr 1001 (Rule.makeMap 230 7 1114370 (by decide)) λ_=>.bind2 1 (.lp (λ(l508:(List SEnt230)×Int×Int)=>Ext.of .normal [(0,.snap [.bool p0,Sl 8 Q0 p1,Sl 8 Q0 p2,Sl 4 Q4 p3,.i p4,.i p5,.i p6,.i p7,.i p8,Sl 1 Z0 p9,Sl 1 Q5 p10,Sl 6 Q8 p11,.nilsl]),(2,.bool false),(3,.mp 7),(4,.i l508.2.1),(12,Sl 6 Q8 p11),(13,.i (Y6 Q8 p11)),(14,.i l508.2.2)] [] [Bt 7 tySEnt230 1114370 l508.1] (by rfl)) (λl508=>.br 0 (decide (l508.2.2 < (Y6 Q8 p11))) (.row 5001 Q8 p11 l508.2.2.toNat (decide (0<=l508.2.2)) λx509=>.cnd 6 [75] (.br 6006 (decide (x509.fj<=l508.2.1)) (.fail) (.br 6016 (decide (p7<=x509.fj)) (.fail) (.call 6026 (s39 x509.gm 0 (Q7 ((Y6 Q4 p3) - 1))) [] [] λr510=>.br 6030 (!r510) (.fail) (.call 6032 (s39 x509.gC 0 1099511629376) [] [] λr511=>.br 6036 (!r511) (.fail) (.call 6038 (s39 x509.gD 1 4) [] [] λr512=>.br 6042 (!r512) (.fail) (.br 6045 x509.fE (.fail) (.opr 6057 (Rule.look (mt:=230) (kt:=232) (et:=4) (z:=1114370) (ty:=tySEnt230) (p:=(λx=>((x509.gm==x.fk.gv)&&((x509.fE==x.fk.gx)&&true)))) (kc:=[.int .i64 x509.gm,.bool x509.fE]) (.tmp 68) (.tmp 73) 74 7 true l508.1 (.bool false) (.bool (V5 l508.1 (λx=>((x509.gm==x.fk.gv)&&((x509.fE==x.fk.gx)&&true))) (λx=>x.fv) false)) ⟨by kernel_rfl,by kernel_rfl,by kernel_rfl,λ_=>by kernel_rfl⟩ (by kernel_rfl) (mlook_map _ _ (λx:SEnt230=>x.fv) false V.bool)) λ_=>.done (V5 l508.1 (λx=>((x509.gm==x.fk.gv)&&((x509.fE==x.fk.gx)&&true))) (λx=>x.fv) false)))))))) zg λc513=>.br 0 c513 (.fail) (.opr 8010 (Rule.put (mt:=230) (kt:=232) (et:=4) (z:=1114370) (ty:=tySEnt230) (p:=(λx=>((x509.gm==x.fk.gv)&&((x509.fE==x.fk.gx)&&true)))) (kc:=[.int .i64 x509.gm,.bool x509.fE]) (.tmp 76) (.tmp 81) (.const (.bool true)) 7 l508.1 (SEnt230.mk (SCheck.mk x509.gm x509.fE) true) [.bool true] ⟨by kernel_rfl,by kernel_rfl,by kernel_rfl,λ_=>by kernel_rfl⟩ (by rfl) (by kernel_rfl) (by kernel_rfl) (by decide) (by decide)) λ_=>.done (.inl ((mput l508.1 (λx=>((x509.gm==x.fk.gv)&&((x509.fE==x.fk.gx)&&true))) (SEnt230.mk (SCheck.mk x509.gm x509.fE) true)),x509.fj,(Q7 (l508.2.2+1)))))) (.done (.inr (.inr ())))) ([],(-1),0)) (λ(e514:Unit)=>Ext.l .ret [(2,.bool false)] []) (λ(e515:Unit)=>Ext.l (.exit 0) [(2,.bool false)] []) (λ_=>.fail) (λe515=>.done true):TT (Bool)) (λr=>.bool r) by unfold FnD;kernel_rfl)
def s34_1(p0:Bool)(p1 p2:List Q6)(p3:List Z2)(p4 p5 p6 p7 p8:Int)(p9:List Int)(p10:List Bool)(p11:List Z7):Sp (Bool):=.ofFn 34 Q9 Tryz.func34 (show FnD Pg GG [0,2,3,4,5,6,35,97,120,125,126,127,128,147] Tryz.f34 [.snap [.bool p0,Sl 8 Q0 p1,Sl 8 Q0 p2,Sl 4 Q4 p3,.i p4,.i p5,.i p6,.i p7,.i p8,Sl 1 Z0 p9,Sl 1 Q5 p10,Sl 6 Q8 p11,.nilsl]] (.cnd 2 [35] (.call 2006 (s86 (H6.mk p0 p1 p2 p3)) [] [] λr478=>.br 2009 (r478 != 0) (.fail) (.call 2016 (s50 p1) [] [] λr479=>.br 2020 (decide ((0:Int)<=r479)) (.fail) (.call 2027 (s50 p2) [] [] λr480=>.done (decide ((0:Int)<=r480))))) zg λc481=>.br 0 c481 (.fail) (.cnd 5 [97] (.call 5006 (s39 p4 0 281474976710655) [] [] λr482=>.br 5009 (!r482) (.fail) (.call 5014 (s39 p5 0 1099511627776) [] [] λr483=>.br 5018 (!r483) (.fail) (.call 5023 (s39 p6 0 1099511627826) [] [] λr484=>.br 5027 (!r484) (.fail) (.call 5032 (s39 p7 0 1099511627776) [] [] λr485=>.br 5036 (!r485) (.fail) (.br 5046 ((Y6 Q5 p10) != (Y6 Q4 p3)) (.fail) (.call 5053 (s39 p8 (-1) (Q7 ((Y6 Q4 p3) - 1))) [] [] λr486=>.done (!r486))))))) zg λc487=>.br 0 c487 (.done false) (.cnd 7 [120] (.br 7008 (decide ((0:Int)<=p8)) (.fail) (.done false)) zg λc489=>.br 0 c489 (.fail) (.bind2 1 (.lp (λ(l495:Int)=>Ext.l .normal [(0,.snap [.bool p0,Sl 8 Q0 p1,Sl 8 Q0 p2,Sl 4 Q4 p3,.i p4,.i p5,.i p6,.i p7,.i p8,Sl 1 Z0 p9,Sl 1 Q5 p10,Sl 6 Q8 p11,.nilsl]),(2,.bool false),(4,.i (Y6 Q4 p3)),(125,Sl 1 Z0 p9),(126,.i (Y6 Z0 p9)),(127,.i l495)] []) (λl495=>.br 0 (decide (l495 < (Y6 Z0 p9))) (.row 11002 Z0 p9 l495.toNat (decide (0<=l495)) λx496=>.cnd 12 [147] (.call 12004 (s39 x496 0 (Q7 ((Y6 Q4 p3) - 1))) [] [] λr497=>.br 12007 (!r497) (.fail) (.chk 12013 (decide (0<=l495)&&decide (l495<=((mlenn Z0 p9):Int))) (.re 12013 (ReW.cutHi 144 1 Z0 p9 l495.toNat) (.call 12015 (s87 (p9.take l495.toNat) x496) [] [] λr498=>.done r498)))) zg λc499=>.br 0 c499 (.fail) (.done (.inl (Q7 (l495+1))))) (.done (.inr (.inr ())))) 0) (λ(e500:Unit)=>Ext.l .ret [(0,.snap [.bool p0,Sl 8 Q0 p1,Sl 8 Q0 p2,Sl 4 Q4 p3,.i p4,.i p5,.i p6,.i p7,.i p8,Sl 1 Z0 p9,Sl 1 Q5 p10,Sl 6 Q8 p11,.nilsl]),(2,.bool false)] []) (λ(e501:Unit)=>Ext.l (.exit 0) [(0,.snap [.bool p0,Sl 8 Q0 p1,Sl 8 Q0 p2,Sl 4 Q4 p3,.i p4,.i p5,.i p6,.i p7,.i p8,Sl 1 Z0 p9,Sl 1 Q5 p10,Sl 6 Q8 p11,.nilsl]),(2,.bool false)] []) (λ_=>.fail) (λe501=>.call 15002 (s88_1 p0 p1 p2 p3 p4 p5 p6 p7 p8 p9 p10 p11) [] [] λr516=>.done r516)))):TT (Bool)) (λr=>.bool r) by unfold FnD;kernel_rfl)
def g90(p0:List Int):TT Unit:=.app 3003 Z0 [] p0 8 true (by intros;rfl) (.done ())
theorem k90y:Y2 Tryz.prog GG [2] 8 (O9 Tryz.f90.body) (Ext.l .normal [(2,.nilsl)] []) (.done ():TT Unit) (λ_=>Ext.l .ret [(2,.nilsl)] []):=by unfold Y2;kernel_rfl
theorem k90r(p0:List Int):Y2 Tryz.prog GG [0,2,5,6,7] 8 (X9 Tryz.f90.body) (Ext.l .normal [(0,.sl false 1 (List.map Z0.c p0)),(2,.nilsl)] []) (g90 p0) (λ_=>Ext.of .ret [(2,.ref 7 0 ([]++p0).length)] [] [BT.of 7 Z0 1 ([]++p0)] (by rfl)):=by unfold Y2;kernel_rfl
theorem k90(p0:(List Int)){r:Unit}(h:(g90 p0).run=some r):CallC Tryz.prog GG 90 [.sl false 1 (List.map Z0.c p0)] (ofL []) (.ref 7 0 p0.length) (ofL [(7,⟨1,true,List.map Z0.c p0⟩)]):=
 clone_ok (ty:=Z0) (ops0:=cloneOps0 Tryz.f90.body) (ops1:=cloneOps1 Tryz.f90.body) (yes:=O9 Tryz.f90.body) (rest:=X9 Tryz.f90.body) (t:=31) Q9 (by decide) Tryz.func90 (by kernel_rfl) (by kernel_rfl) (by kernel_rfl) (by kernel_rfl) (by kernel_rfl) (by kernel_rfl) (by kernel_rfl) (by kernel_rfl) (by kernel_rfl) k90y (k90r p0) (by rfl) h
def s90(p0:List Int):Sp Unit:=⟨90,[Sl 1 Z0 p0],[],(g90 p0).run,λ_=>Rf 7 p0,λ_=>[(7,⟨1,true,List.map Z0.c p0⟩)],[7],λ_ p hp _=>by rw[we.1 hp];exact Z0.data _,λ_ h=>k90 p0 h⟩
def g91(p0:List Bool):TT Unit:=.app 3003 Q5 [] p0 1 true (by intros;rfl) (.done ())
theorem k91y:Y2 Tryz.prog GG [2] 8 (O9 Tryz.f91.body) (Ext.l .normal [(2,.nilsl)] []) (.done ():TT Unit) (λ_=>Ext.l .ret [(2,.nilsl)] []):=by unfold Y2;kernel_rfl
theorem k91r(p0:List Bool):Y2 Tryz.prog GG [0,2,5,6,7] 8 (X9 Tryz.f91.body) (Ext.l .normal [(0,.sl false 1 (List.map Q5.c p0)),(2,.nilsl)] []) (g91 p0) (λ_=>Ext.of .ret [(2,.ref 7 0 ([]++p0).length)] [] [BT.of 7 Q5 1 ([]++p0)] (by rfl)):=by unfold Y2;kernel_rfl
theorem k91(p0:(List Bool)){r:Unit}(h:(g91 p0).run=some r):CallC Tryz.prog GG 91 [.sl false 1 (List.map Q5.c p0)] (ofL []) (.ref 7 0 p0.length) (ofL [(7,⟨1,true,List.map Q5.c p0⟩)]):=
 clone_ok (ty:=Q5) (ops0:=cloneOps0 Tryz.f91.body) (ops1:=cloneOps1 Tryz.f91.body) (yes:=O9 Tryz.f91.body) (rest:=X9 Tryz.f91.body) (t:=32) Q9 (by decide) Tryz.func91 (by kernel_rfl) (by kernel_rfl) (by kernel_rfl) (by kernel_rfl) (by kernel_rfl) (by kernel_rfl) (by kernel_rfl) (by kernel_rfl) (by kernel_rfl) k91y (k91r p0) (by rfl) h
def s91(p0:List Bool):Sp Unit:=⟨91,[Sl 1 Q5 p0],[],(g91 p0).run,λ_=>Rf 7 p0,λ_=>[(7,⟨1,true,List.map Q5.c p0⟩)],[7],λ_ p hp _=>by rw[we.1 hp];exact Q5.data _,λ_ h=>k91 p0 h⟩
def g92(p0:List Z7):TT Unit:=.app 3003 Q8 [] p0 40 true (by intros;rfl) (.done ())
theorem k92y:Y2 Tryz.prog GG [2] 8 (O9 Tryz.f92.body) (Ext.l .normal [(2,.nilsl)] []) (.done ():TT Unit) (λ_=>Ext.l .ret [(2,.nilsl)] []):=by unfold Y2;kernel_rfl
theorem k92r(p0:List Z7):Y2 Tryz.prog GG [0,2,5,6,7] 8 (X9 Tryz.f92.body) (Ext.l .normal [(0,.sl false 6 (List.map Q8.c p0)),(2,.nilsl)] []) (g92 p0) (λ_=>Ext.of .ret [(2,.ref 7 0 ([]++p0).length)] [] [BT.of 7 Q8 6 ([]++p0)] (by rfl)):=by unfold Y2;kernel_rfl
theorem k92(p0:(List Z7)){r:Unit}(h:(g92 p0).run=some r):CallC Tryz.prog GG 92 [.sl false 6 (List.map Q8.c p0)] (ofL []) (.ref 7 0 p0.length) (ofL [(7,⟨6,true,List.map Q8.c p0⟩)]):=
 clone_ok (ty:=Q8) (ops0:=cloneOps0 Tryz.f92.body) (ops1:=cloneOps1 Tryz.f92.body) (yes:=O9 Tryz.f92.body) (rest:=X9 Tryz.f92.body) (t:=33) Q9 (by decide) Tryz.func92 (by kernel_rfl) (by kernel_rfl) (by kernel_rfl) (by kernel_rfl) (by kernel_rfl) (by kernel_rfl) (by kernel_rfl) (by kernel_rfl) (by kernel_rfl) k92y (k92r p0) (by rfl) h
def s92(p0:List Z7):Sp Unit:=⟨92,[Sl 6 Q8 p0],[],(g92 p0).run,λ_=>Rf 7 p0,λ_=>[(7,⟨6,true,List.map Q8.c p0⟩)],[7],λ_ p hp _=>by rw[we.1 hp];exact Q8.data _,λ_ h=>k92 p0 h⟩
def g36(p0:J7):TT ((Unit)⊕(Unit)):=.view 2002 (s34_1 p0.fh.fq p0.fh.fB p0.fh.fC p0.fh.fD p0.fw p0.gc p0.fY p0.ga p0.gb p0.fT p0.fX p0.fO) [] λr517=>.br 0 (!r517) (.fail) (.call 4007 (s77 p0.fh.fB) [] [(7,500061)] λr518=>.call 4011 (s77 p0.fh.fC) [] [(7,500062)] λr519=>.call 4015 (s89 p0.fh.fD) [] [(7,500063)] λr520=>.call 5006 (s90 p0.fT) [] [(7,500064)] λr521=>.call 5009 (s91 p0.fX) [] [(7,500065)] λr522=>.call 5012 (s92 p0.fO) [] [(7,500066)] λr523=>.done (.inr ()))
def s36(p0:J7):Sp ((Unit)⊕(Unit)):=.ofFnB 36 [500061,500062,500063,500064,500065,500066] Q9 Tryz.func36 rfl (λr=>by cases r<;>rfl) (show FnB Pg GG [0,1,2,3,4,10] Tryz.f36 [.agg [.bool p0.fh.fq,Sl 8 Q0 p0.fh.fB,Sl 8 Q0 p0.fh.fC,Sl 4 Q4 p0.fh.fD,.i p0.fw,.i p0.gc,.i p0.fY,.i p0.ga,.i p0.gb,Sl 1 Z0 p0.fT,Sl 1 Q5 p0.fX,Sl 6 Q8 p0.fO]] (Ext.of .normal (H8 [.agg [.bool p0.fh.fq,Sl 8 Q0 p0.fh.fB,Sl 8 Q0 p0.fh.fC,Sl 4 Q4 p0.fh.fD,.i p0.fw,.i p0.gc,.i p0.fY,.i p0.ga,.i p0.gb,Sl 1 Z0 p0.fT,Sl 1 Q5 p0.fX,Sl 6 Q8 p0.fO]]) [] [] (by rfl)) (g36 p0) (Sum.elim (λ(r:Unit)=>.tup [.nilp,.i 111]) (λ(r:Unit)=>.tup [.ptr 7 0 0,.i 0])) (Sum.elim (λ(r:Unit)=>Ext.of .normal [] [] [] (by rfl)) (λ(r:Unit)=>Ext.of .normal [] [(7,⟨13,true,[[.bool p0.fh.fq,Rf 500061 p0.fh.fB,Rf 500062 p0.fh.fC,Rf 500063 p0.fh.fD,.i p0.fw,.i p0.gc,.i p0.fY,.i p0.ga,.i p0.gb,Rf 500064 p0.fT,Rf 500065 p0.fX,Rf 500066 p0.fO,.nilsl]]⟩)] [Bt 500061 Q0 8 p0.fh.fB,Bt 500062 Q0 8 p0.fh.fC,Bt 500063 Q4 4 p0.fh.fD,Bt 500064 Z0 1 p0.fT,Bt 500065 Q5 1 p0.fX,Bt 500066 Q8 6 p0.fO] (by rfl))) by unfold FnB;kernel_rfl)
def s37(p0:Bool)(p1 p2:List Q6)(p3:List Z2)(p4 p5 p6 p7 p8:Int)(p9:List Int)(p10:List Bool)(p11:List Z7):Sp (Bool):=.ofFn 37 Q9 Tryz.func37 (show FnD Pg GG [0,2,4,18] Tryz.f37 [.snap [.bool p0,Sl 8 Q0 p1,Sl 8 Q0 p2,Sl 4 Q4 p3,.i p4,.i p5,.i p6,.i p7,.i p8,Sl 1 Z0 p9,Sl 1 Q5 p10,Sl 6 Q8 p11,.nilsl]] (.cnd 1 [18] (.br 1008 (decide ((0:Int)<=p8)) (.fail) (.done (p7==1099511627776))) zg λc531=>.br 0 c531 (.fail) (.call 3006 (s93 (H6.mk p0 p1 p2 p3)) [] [] λr532=>.cnd 4 [2] (.br 4009 (decide ((0:Int) < (Y6 Z0 p9))) (.fail) (.done (r532.2==0))) zg λc533=>.done c533):TT (Bool)) (λr=>.bool r) by unfold FnD;kernel_rfl)
def s38(p0:List Int):Sp (Int):=.ofFn 38 Q9 Tryz.func38 (show FnD Pg GG [0,2,3,4,7,15] Tryz.f38 [Sl 1 Z0 p0] (.br 0 (decide ((Y6 Z0 p0) < 1)) (.fail) (.row 3002 Z0 p0 0 true λx536=>.bind 1 (.lp (λ(l539:Int×Int)=>Ext.l .normal [(0,Sl 1 Z0 p0),(2,.i 0),(3,.i l539.1),(4,.i l539.2)] []) (λl539=>.br 0 (decide (l539.2 < (Y6 Z0 p0))) (.fail) (.done (.inr l539.1))) (x536,1)) (λ(e541:Int)=>Ext.l (.exit 0) [(2,.i 0),(3,.i e541)] []) (λe541=>.done e541)):TT (Int)) (λr=>.int .i64 r) by unfold FnD;kernel_rfl)
def s11(p0:J7):Sp (Int×Int):=.ofFn 11 Q9 Tryz.func11 (show FnD Pg GG [0,1,2,3,4,5,6,8,15,21,22,23,24,34,45] Tryz.f11 [.agg [.bool p0.fh.fq,Sl 8 Q0 p0.fh.fB,Sl 8 Q0 p0.fh.fC,Sl 4 Q4 p0.fh.fD,.i p0.fw,.i p0.gc,.i p0.fY,.i p0.ga,.i p0.gb,Sl 1 Z0 p0.fT,Sl 1 Q5 p0.fX,Sl 6 Q8 p0.fO]] (.call2 1002 (s36 p0) [] [(7,500067),(500061,500068),(500062,500069),(500063,500070),(500064,500071),(500065,500072),(500066,500073)] (λ_=>.fail) (λr525=>.ff (.gh 1 (.virt 600075 6 1) (.bind 0 (.lp (λ(l528:(List Int)×Int)=>Ext.of .normal [(2,.i 0),(3,.i 0),(4,.ptr 500067 0 0),(6,Rf 600075 l528.1),(21,Rf 500073 p0.fO),(22,.i (p0.fO.length:Int)),(23,.i l528.2)] [(500067,⟨13,true,[[.bool p0.fh.fq,Rf 500068 p0.fh.fB,Rf 500069 p0.fh.fC,Rf 500070 p0.fh.fD,.i p0.fw,.i p0.gc,.i p0.fY,.i p0.ga,.i p0.gb,Rf 500071 p0.fT,Rf 500072 p0.fX,Rf 500073 p0.fO,.nilsl]]⟩)] [Bt 500068 Q0 8 p0.fh.fB,Bt 500069 Q0 8 p0.fh.fC,Bt 500070 Q4 4 p0.fh.fD,Bt 500071 Z0 1 p0.fT,Bt 500072 Q5 1 p0.fX,Bt 500073 Q8 6 p0.fO,Bt 600075 Z0 1 l528.1] (by rfl)) (λl528=>.br 0 (decide (l528.2 < (p0.fO.length:Int))) (.fail) (.done (.inr l528.1))) ([],0)) (λ(e530:(List Int))=>Ext.of (.exit 0) [(2,.i 0),(3,.i 0),(4,.ptr 500067 0 0),(6,Rf 600075 e530)] [(500067,⟨13,true,[[.bool p0.fh.fq,Rf 500068 p0.fh.fB,Rf 500069 p0.fh.fC,Rf 500070 p0.fh.fD,.i p0.fw,.i p0.gc,.i p0.fY,.i p0.ga,.i p0.gb,Rf 500071 p0.fT,Rf 500072 p0.fX,Rf 500073 p0.fO,.nilsl]]⟩)] [Bt 500068 Q0 8 p0.fh.fB,Bt 500069 Q0 8 p0.fh.fC,Bt 500070 Q4 4 p0.fh.fD,Bt 500071 Z0 1 p0.fT,Bt 500072 Q5 1 p0.fX,Bt 500073 Q8 6 p0.fO,Bt 600075 Z0 1 e530] (by rfl)) (λe530=>.view 10002 (s37 p0.fh.fq p0.fh.fB p0.fh.fC p0.fh.fD p0.fw p0.gc p0.fY p0.ga p0.gb p0.fT p0.fX p0.fO) [(VwW.o 500068 Q0 p0.fh.fB),(VwW.o 500069 Q0 p0.fh.fC),(VwW.o 500070 Q4 p0.fh.fD),(VwW.o 500071 Z0 p0.fT),(VwW.o 500072 Q5 p0.fX),(VwW.o 500073 Q8 p0.fO)] λr534=>.bind 0 (.br 0 r534 (.app 11008 Z0 e530 [p0.fY] 8 false (by intro h;cases h) (.gh 0 (.ren 42 600076) (.done (e530++[p0.fY])))) (.fail)) (λ(e535:(List Int))=>Ext.of .normal [(2,.i 0),(3,.i 0),(4,.ptr 500067 0 0),(6,Rf 600076 e535)] [(500067,⟨13,true,[[.bool p0.fh.fq,Rf 500068 p0.fh.fB,Rf 500069 p0.fh.fC,Rf 500070 p0.fh.fD,.i p0.fw,.i p0.gc,.i p0.fY,.i p0.ga,.i p0.gb,Rf 500071 p0.fT,Rf 500072 p0.fX,Rf 500073 p0.fO,.nilsl]]⟩)] [Bt 500068 Q0 8 p0.fh.fB,Bt 500069 Q0 8 p0.fh.fC,Bt 500070 Q4 4 p0.fh.fD,Bt 500071 Z0 1 p0.fT,Bt 500072 Q5 1 p0.fX,Bt 500073 Q8 6 p0.fO,Bt 600076 Z0 1 e535] (by rfl)) (λe535=>.br 0 ((e535.length:Int)==0) (.fail) (.view 14002 (s38 e535) [(VwW.o 600076 Z0 e535)] λr542=>.done ((if p0.gc > r542 then p0.gc else r542),0))))))):TT (Int×Int)) (λr=>.tup [.int .i64 r.1,.int .i64 r.2]) by unfold FnD;kernel_rfl)
def s13(p0:J7):Sp (Int):=.ofFn 13 Q9 Tryz.func13 (show FnD Pg GG [0,1,2,3,9] Tryz.f13 [.agg [.bool p0.fh.fq,Sl 8 Q0 p0.fh.fB,Sl 8 Q0 p0.fh.fC,Sl 4 Q4 p0.fh.fD,.i p0.fw,.i p0.gc,.i p0.fY,.i p0.ga,.i p0.gb,Sl 1 Z0 p0.fT,Sl 1 Q5 p0.fX,Sl 6 Q8 p0.fO]] (.view 2002 (s34_1 p0.fh.fq p0.fh.fB p0.fh.fC p0.fh.fD p0.fw p0.gc p0.fY p0.ga p0.gb p0.fT p0.fX p0.fO) [] λr543=>.br 0 (!r543) (.done 111) (.done 0):TT (Int)) (λr=>.int .i64 r) by unfold FnD;kernel_rfl)
def s42(p0:Z2):Sp (Bool):=.ofFn 42 Q9 Tryz.func42 (show FnD Pg GG [0,1,2] Tryz.f42 [.agg (Q4.c p0)] (.done (p0.gq==3):TT (Bool)) (λr=>.bool r) by unfold FnD;kernel_rfl)
def s98(p0:List Z2):Sp (Int):=.ofFn 98 Q9 Tryz.func98 (show FnD Pg GG [0,1,4,5,7,8,9,16] Tryz.f98 [Sl 4 Q4 p0,.fn 42 [] []] (.bind2 1 (.lp (λ(l549:Int)=>Ext.l .normal [(0,Sl 4 Q4 p0),(1,.fn 42 [] []),(4,.i 0),(7,.i (Y6 Q4 p0)),(8,.i l549)] []) (λl549=>.br 0 (decide (l549 < (Y6 Q4 p0))) (.row 4004 Q4 p0 l549.toNat (decide (0<=l549)) λx550=>.call 4006 (s42 x550) [] [] λr551=>.br 0 r551 (.done (.inr (.inl l549))) (.fail)) (.fail)) 0) (λ(e552:Int)=>Ext.l .ret [(4,.i e552)] []) (λ(e553:Unit)=>Ext.l (.exit 0) [(4,.i 0)] []) (λe552=>.done e552) (λ_=>.fail):TT (Int)) (λr=>.int .i64 r) by unfold FnD;kernel_rfl)
def s41(p0:List Z2):Sp (Int):=.ofFn 41 Q9 Tryz.func41 (show FnD Pg GG [0,1,4] Tryz.f41 [Sl 4 Q4 p0,.fn 42 [] []] (.call 1003 (s98 p0) [] [] λr554=>.done r554:TT (Int)) (λr=>.int .i64 r) by unfold FnD;kernel_rfl)
def s14(p0:J7):Sp (Int×Int):=.ofFn 14 Q9 Tryz.func14 (show FnD Pg GG [0,1,2,3,4,5,12,14,21,30] Tryz.f14 [.agg [.bool p0.fh.fq,Sl 8 Q0 p0.fh.fB,Sl 8 Q0 p0.fh.fC,Sl 4 Q4 p0.fh.fD,.i p0.fw,.i p0.gc,.i p0.fY,.i p0.ga,.i p0.gb,Sl 1 Z0 p0.fT,Sl 1 Q5 p0.fX,Sl 6 Q8 p0.fO]] (.call2 1002 (s36 p0) [] [(7,500077),(500061,500078),(500062,500079),(500063,500080),(500064,500081),(500065,500082),(500066,500083)] (λ_=>.fail) (λr545=>.ff (.br 0 (decide ((0:Int)<=p0.gb)) (.fail) (.view 6007 (s41 p0.fh.fD) [(VwW.o 500080 Q4 p0.fh.fD)] λr546=>.br 0 (decide ((0:Int)<=r546)) (.done (2,0)) (.fail)))):TT (Int×Int)) (λr=>.tup [.int .i64 r.1,.int .i64 r.2]) by unfold FnD;kernel_rfl)
def g250(p0:za):TT (Bool):=.cnd 1 [2] (.br 1005 ((p0.size:Int)==4) (.done true) (.done ((p0.size:Int)==16))) zg λc549=>.done c549
def s250(p0:za):Sp (Bool):=.ofFn 250 Q9 Tryz.func250 (show FnD Pg GG [0,2] Tryz.f250 [.str p0] (g250 p0) (λr=>.bool r) by unfold FnD;kernel_rfl)
def g213(p0:Z4):TT (Bool):=.cnd 1 [2] (.call 1003 (s250 p0.fc) [] [] λr550=>.br 1005 r550 (.br 1010 (decide ((0:Int)<=p0.fe)) (.done (decide (p0.fe<=65535))) (.done false)) (.done false)) zg λc551=>.done c551
def s213(p0:Z4):Sp (Bool):=.ofFn 213 Q9 Tryz.func213 (show FnD Pg GG [0,1,2] Tryz.f213 [.agg [.str p0.fc,.i p0.fe]] (g213 p0) (λr=>.bool r) by unfold FnD;kernel_rfl)
def g137(p0:Z4):TT (Bool):=.cnd 1 [2] (.call 1002 (s213 p0) [] [] λr552=>.br 1004 r552 (.done (decide ((1:Int)<=p0.fe))) (.done false)) zg λc553=>.done c553
def s137(p0:Z4):Sp (Bool):=.ofFn 137 Q9 Tryz.func137 (show FnD Pg GG [0,1,2] Tryz.f137 [.agg [.str p0.fc,.i p0.fe]] (g137 p0) (λr=>.bool r) by unfold FnD;kernel_rfl)
def g286(p0:Int):TT (za):=.br 0 (decide (p0 < 10)) (.chk 2004 ((decide (0<=(Q7 (p0+1)))&&decide ((Q7 (p0+1))<=(36:Int)))&&(decide (0<=p0)&&decide (p0<=((Q7 (p0+1)).toNat:Int)))) (.done ((bs [48,49,50,51,52,53,54,55,56,57,97,98,99,100,101,102,103,104,105,106,107,108,109,110,111,112,113,114,115,116,117,118,119,120,121,122]).extract p0.toNat ((Q7 (p0+1)).toNat)))) (.chk 3006 ((decide (0<=(Q7 ((Q7 (p0 * 2))+2)))&&decide ((Q7 ((Q7 (p0 * 2))+2))<=(200:Int)))&&(decide (0<=(Q7 (p0 * 2)))&&decide ((Q7 (p0 * 2))<=((Q7 ((Q7 (p0 * 2))+2)).toNat:Int)))) (.done ((bs [48,48,48,49,48,50,48,51,48,52,48,53,48,54,48,55,48,56,48,57,49,48,49,49,49,50,49,51,49,52,49,53,49,54,49,55,49,56,49,57,50,48,50,49,50,50,50,51,50,52,50,53,50,54,50,55,50,56,50,57,51,48,51,49,51,50,51,51,51,52,51,53,51,54,51,55,51,56,51,57,52,48,52,49,52,50,52,51,52,52,52,53,52,54,52,55,52,56,52,57,53,48,53,49,53,50,53,51,53,52,53,53,53,54,53,55,53,56,53,57,54,48,54,49,54,50,54,51,54,52,54,53,54,54,54,55,54,56,54,57,55,48,55,49,55,50,55,51,55,52,55,53,55,54,55,55,55,56,55,57,56,48,56,49,56,50,56,51,56,52,56,53,56,54,56,55,56,56,56,57,57,48,57,49,57,50,57,51,57,52,57,53,57,54,57,55,57,56,57,57]).extract ((Q7 (p0 * 2)).toNat) ((Q7 ((Q7 (p0 * 2))+2)).toNat))))
def s286(p0:Int):Sp (za):=.ofFn 286 Q9 Tryz.func286 (show FnD Pg GG [0,2,4] Tryz.f286 [.i p0] (g286 p0) (λr=>.str r) by unfold FnD;kernel_rfl)
def g273(p0 p1:Int):TT (za):=.br 0 (p1==10) (.cnd 2 [17] (.br 2004 (decide ((0:Int)<=p0)) (.done (decide (p0 < 100))) (.done false)) zg λc557=>.br 0 c557 (.call 3002 (s286 p0) [] [] λr558=>.done r558) (.bind 0 (.br 0 (decide (p0 < 0)) (.done (Z5 (0 - (Z5 p0)))) (.done (Z5 p0))) (λ(e559:Int)=>Ext.l .normal [(0,.i p0),(1,.i p1),(4,.str zb),(5,.ptr 5 0 0),(6,.int .u64 e559)] [(5,⟨24,true,[[.int .u8 0,.int .u8 0,.int .u8 0,.int .u8 0,.int .u8 0,.int .u8 0,.int .u8 0,.int .u8 0,.int .u8 0,.int .u8 0,.int .u8 0,.int .u8 0,.int .u8 0,.int .u8 0,.int .u8 0,.int .u8 0,.int .u8 0,.int .u8 0,.int .u8 0,.int .u8 0,.int .u8 0,.int .u8 0,.int .u8 0,.int .u8 0]]⟩)]) (λe559=>.fail))) (.fail)
def s273(p0 p1:Int):Sp (za):=.ofFn 273 Q9 Tryz.func273 (show FnD Pg GG [0,1,4,5,6,7,9,11,17,23,34] Tryz.f273 [.i p0,.i p1] (g273 p0 p1) (λr=>.str r) by unfold FnD;kernel_rfl)
def g256(p0:Int):TT (za):=.call 1002 (s273 p0 10) [] [] λr560=>.done r560
def s256(p0:Int):Sp (za):=.ofFn 256 Q9 Tryz.func256 (show FnD Pg GG [0,2] Tryz.f256 [.i p0] (g256 p0) (λr=>.str r) by unfold FnD;kernel_rfl)
def g218(p0:Int):TT (za):=.call 1002 (s256 p0) [] [] λr561=>.done r561
def s218(p0:Int):Sp (za):=.ofFn 218 Q9 Tryz.func218 (show FnD Pg GG [0,2] Tryz.f218 [.i p0] (g218 p0) (λr=>.str r) by unfold FnD;kernel_rfl)
def g219(p0:za):TT (za):=.opr 1004 (Rule.makeD (ty:=U4) (t:=73) (e:=5) (zv:=.int .u8 0) (zc:=.int .u8 0) (0:Int) (.const (.int .i64 0)) (.tmp 7) 8 0 (Q7 ((2:Int) * (p0.size:Int))) 1 (by kernel_rfl) (by kernel_rfl) (by kernel_rfl) rfl ⟨rfl,rfl,rfl⟩ (λ_ _=>by constructor)) λ_=>.gh 1 (.ren 8 600085) (.bind 0 (.lp (λ(l564:(List Int)×Int)=>Ext.of .normal [(0,.str p0),(2,.str zb),(3,Rf 600085 l564.1),(4,.i l564.2)] [] [Bt 600085 U4 1 l564.1] (by rfl)) (λl564=>.br 0 (decide (l564.2 < (p0.size:Int))) (.chk 5004 (decide (0<=l564.2/\l564.2 < (p0.size:Int))) (.chk 5006 (decide (0<=(wu8 (Int.tdiv (bAt p0 l564.2) 16))/\(wu8 (Int.tdiv (bAt p0 l564.2) 16)) < ((bs [48,49,50,51,52,53,54,55,56,57,97,98,99,100,101,102]).size:Int))) (.chk 5009 (decide (0<=l564.2/\l564.2 < (p0.size:Int))) (.chk 5011 (decide (0<=(Int.tmod (bAt p0 l564.2) 16)/\(Int.tmod (bAt p0 l564.2) 16) < ((bs [48,49,50,51,52,53,54,55,56,57,97,98,99,100,101,102]).size:Int))) (.app 5013 U4 l564.1 [(bAt (bs [48,49,50,51,52,53,54,55,56,57,97,98,99,100,101,102]) (wu8 (Int.tdiv (bAt p0 l564.2) 16))),(bAt (bs [48,49,50,51,52,53,54,55,56,57,97,98,99,100,101,102]) (Int.tmod (bAt p0 l564.2) 16))] 1 false (by intro h;cases h) (.gh 0 (.drop [600085]) (.gh 0 (.ren 27 600085) (.done (.inl ((l564.1++[(bAt (bs [48,49,50,51,52,53,54,55,56,57,97,98,99,100,101,102]) (wu8 (Int.tdiv (bAt p0 l564.2) 16))),(bAt (bs [48,49,50,51,52,53,54,55,56,57,97,98,99,100,101,102]) (Int.tmod (bAt p0 l564.2) 16))]),(Q7 (l564.2+1)))))))))))) (.done (.inr l564.1))) ([],0)) (λ(e565:(List Int))=>Ext.of (.exit 0) [(2,.str zb),(3,Rf 600085 e565)] [] [Bt 600085 U4 1 e565] (by rfl)) (λe565=>.opr 6002 (Rule.textOf (ty:=U4) (s:=73) (t:=9) (e:=5) (.tmp 28) 29 600085 e565 e565.length (by kernel_rfl) (by kernel_rfl) (by kernel_rfl) (by simp) (λ_=>rfl)) λ_=>.done (strOfNums e565)))
def s219(p0:za):Sp (za):=.ofFn 219 Q9 Tryz.func219 (show FnD Pg GG [0,2,3,4,12] Tryz.f219 [.str p0] (g219 p0) (λr=>.str r) by unfold FnD;kernel_rfl)
def g150(p0:Int)(p1 p2:Z4):TT (za×Int):=.cnd 1 [28] (.br 1004 (decide (p0 < 1)) (.done true) (.br 1008 (decide ((4:Int) < p0)) (.done true) (.call 1009 (s137 p1) [] [] λr554=>.br 1013 (!r554) (.done true) (.br 1017 (!((decide (p2.fc=zb))&&((p2.fe==0)&&true))) (.call 1018 (s137 p2) [] [] λr555=>.done (!r555)) (.done false))))) zg λc556=>.br 0 c556 (.done (zb,2)) (.call 3002 (s218 p0) [] [] λr562=>.chk 3003 (decide (r562.size+(bs [45]).size<=9223372036854775807)) (.call 3006 (s219 p1.fc) [] [] λr566=>.chk 3007 (decide ((r562++(bs [45])).size+r566.size<=9223372036854775807)) (.chk 3008 (decide (((r562++(bs [45]))++r566).size+(bs [45]).size<=9223372036854775807)) (.call 3011 (s219 p2.fc) [] [] λr567=>.chk 3012 (decide ((((r562++(bs [45]))++r566)++(bs [45])).size+r567.size<=9223372036854775807)) (.done (((((r562++(bs [45]))++r566)++(bs [45]))++r567),0))))))
def s150(p0:Int)(p1 p2:Z4):Sp (za×Int):=.ofFn 150 Q9 Tryz.func150 (show FnD Pg GG [0,1,2,4,5,6,7,28] Tryz.f150 [.i p0,.agg [.str p1.fc,.i p1.fe],.agg [.str p2.fc,.i p2.fe]] (g150 p0 p1 p2) (λr=>.tup [.str r.1,.i r.2]) by unfold FnD;kernel_rfl)
def g151(p0 p1 p2:Int):TT (Int×Int):=.cnd 1 [30] (.br 1004 (decide (p0 < 1)) (.done true) (.br 1008 (decide ((4:Int) < p0)) (.done true) (.br 1012 (decide (p1 < 0)) (.done true) (.br 1016 (decide ((65535:Int) < p1)) (.done true) (.br 1020 (decide (p2 < 1)) (.done true) (.done (decide ((256:Int) < p2)))))))) zg λc569=>.br 0 c569 (.done (0,2)) (.ceq 3003 p0 [0,1,2,3,4] (λv=>bif v==0 then .br 0 ((Q7 ((Q7 ((Q7 ((0:Int)+(Q7 ((256:Int) * p1))))+256)) - p2))==0) (.done (0,2)) (.done ((Q7 ((Q7 ((Q7 ((0:Int)+(Q7 ((256:Int) * p1))))+256)) - p2)),0)) else bif v==1 then .br 0 ((Q7 ((Q7 ((Q7 ((2113929216:Int)+(Q7 ((256:Int) * p1))))+256)) - p2))==0) (.done (0,2)) (.done ((Q7 ((Q7 ((Q7 ((2113929216:Int)+(Q7 ((256:Int) * p1))))+256)) - p2)),0)) else bif v==2 then .br 0 ((Q7 ((Q7 ((Q7 ((1845493760:Int)+(Q7 ((256:Int) * p1))))+256)) - p2))==0) (.done (0,2)) (.done ((Q7 ((Q7 ((Q7 ((1845493760:Int)+(Q7 ((256:Int) * p1))))+256)) - p2)),0)) else bif v==3 then .br 0 ((Q7 ((Q7 ((Q7 ((1677721600:Int)+(Q7 ((256:Int) * p1))))+256)) - p2))==0) (.done (0,2)) (.done ((Q7 ((Q7 ((Q7 ((1677721600:Int)+(Q7 ((256:Int) * p1))))+256)) - p2)),0)) else bif v==4 then .br 0 ((Q7 ((Q7 ((Q7 ((0:Int)+(Q7 ((256:Int) * p1))))+256)) - p2))==0) (.done (0,2)) (.done ((Q7 ((Q7 ((Q7 ((0:Int)+(Q7 ((256:Int) * p1))))+256)) - p2)),0)) else .fail))
def s151(p0 p1 p2:Int):Sp (Int×Int):=.ofFn 151 Q9 Tryz.func151 (show FnD Pg GG [0,1,2,6,7,8,30,42] Tryz.f151 [.i p0,.i p1,.i p2] (g151 p0 p1 p2) (λr=>.tup [.i r.1,.i r.2]) by unfold FnD;kernel_rfl)
def g152(p0:Q6):TT (Bool):=.cnd 1 [44] (.br 1005 (decide (p0.fm < 1)) (.done true) (.br 1010 (decide ((4:Int) < p0.fm)) (.done true) (.br 1015 (decide (p0.gi < 1)) (.done true) (.br 1020 (decide ((256:Int) < p0.gi)) (.done true) (.br 1025 (decide (p0.fA < 1)) (.done true) (.br 1030 (decide ((2147483647:Int) < p0.fA)) (.done true) (.br 1036 (decide ((p0.gf.size:Int) < 1)) (.done true) (.done (decide ((80:Int) < (p0.gf.size:Int))))))))))) zg λc571=>.br 0 c571 (.done false) (.bind2 1 (.lp (λ(l574:Int)=>Ext.l .normal [(1,.ptr 1 0 0),(2,.bool false),(3,.i l574)] [(1,⟨8,true,[(Q0.c p0)]⟩)]) (λl574=>.br 0 (decide (l574 < (p0.gf.size:Int))) (.chk 6004 (decide (0<=l574/\l574 < (p0.gf.size:Int))) (.cnd 7 [75] (.br 7004 (decide ((48:Int)<=(bAt p0.gf l574))) (.br 7009 (!(decide ((bAt p0.gf l574)<=57))) (.br 7012 (decide ((97:Int)<=(bAt p0.gf l574))) (.br 7018 (!(decide ((bAt p0.gf l574)<=102))) (.done ((bAt p0.gf l574) != 45)) (.done false)) (.done ((bAt p0.gf l574) != 45))) (.done false)) (.br 7012 (decide ((97:Int)<=(bAt p0.gf l574))) (.br 7018 (!(decide ((bAt p0.gf l574)<=102))) (.done ((bAt p0.gf l574) != 45)) (.done false)) (.done ((bAt p0.gf l574) != 45)))) zg λc575=>.br 0 c575 (.done (.inr (.inl ()))) (.done (.inl (Q7 (l574+1)))))) (.done (.inr (.inr ())))) 0) (λ(e576:Unit)=>Ext.l .ret [(1,.ptr 1 0 0),(2,.bool false)] [(1,⟨8,true,[(Q0.c p0)]⟩)]) (λ(e577:Unit)=>Ext.l (.exit 0) [(1,.ptr 1 0 0),(2,.bool false)] [(1,⟨8,true,[(Q0.c p0)]⟩)]) (λe576=>.done false) (λe577=>.cnd 9 [96] (.call 9003 (s137 p0.fJ) [] [] λr578=>.br 9006 (!r578) (.done true) (.call 9008 (s137 p0.fZ) [] [] λr579=>.br 9012 (!r579) (.done true) (.done ((p0.fJ.fc.size:Int) != (p0.fZ.fc.size:Int))))) zg λc580=>.br 0 c580 (.done false) (.cnd 11 [2] (.br 11007 ((decide (p0.fJ.fc=p0.fZ.fc))&&((p0.fJ.fe==p0.fZ.fe)&&true)) (.done true) (.br 11011 (p0.fm != 1) (.done (p0.fm != 4)) (.done false))) zg λc581=>.done c581)))
def s152(p0:Q6):Sp (Bool):=.ofFn 152 Q9 Tryz.func152 (show FnD Pg GG [0,1,2,3,4,44,49,75,96] Tryz.f152 [.agg (Q0.c p0)] (g152 p0) (λr=>.bool r) by unfold FnD;kernel_rfl)
def g74(p0:Int)(p1 p2 p3:Z4)(p4 p5:Int):TT (Q6×Int):=.call 1004 (s150 p0 p2 p3) [] [] λr568=>.br 0 (r568.2 != 0) (.done ((Q6.mk 0 0 0 zb (Z4.mk zb 0) (Z4.mk zb 0)),r568.2)) (.call 4004 (s151 p0 p4 p5) [] [] λr570=>.br 0 (r570.2 != 0) (.done ((Q6.mk 0 0 0 zb (Z4.mk zb 0) (Z4.mk zb 0)),r570.2)) (.call 8002 (s152 (Q6.mk p0 p5 r570.1 r568.1 p1 p2)) [] [] λr582=>.br 0 (!r582) (.done ((Q6.mk 0 0 0 zb (Z4.mk zb 0) (Z4.mk zb 0)),90)) (.done ((Q6.mk p0 p5 r570.1 r568.1 p1 p2),0))))
def s74(p0:Int)(p1 p2 p3:Z4)(p4 p5:Int):Sp (Q6×Int):=.ofFn 74 Q9 Tryz.func74 (show FnD Pg GG [0,1,2,3,4,5,7,8,9,12,13,14,15,16,17,26,37,49] Tryz.f74 [.i p0,.agg [.str p1.fc,.i p1.fe],.agg [.str p2.fc,.i p2.fe],.agg [.str p3.fc,.i p3.fe],.i p4,.i p5] (g74 p0 p1 p2 p3 p4 p5) (λr=>.tup [.agg (Q0.c r.1),.i r.2]) by unfold FnD;kernel_rfl)
def s30(p0:Int):Sp (Q6):=.ofFn 30 Q9 Tryz.func30 (show FnD Pg GG [0,2,3,4] Tryz.f30 [.int .u8 p0] (.call 2004 (s74 1 (Z4.mk (strOfNums [10,0,0,p0]) 1) (Z4.mk (strOfNums [10,0,0,p0]) 1) (Z4.mk zb 0) 1 1) [] [] λr583=>.done r583.1:TT (Q6)) (λr=>.agg (Q0.c r)) by unfold FnD;kernel_rfl)
def s9_1(p0:Bool)(p1 p2:Int)(p3 p4:List Q6):Sp (Int×Bool×(List Q6)×(List Q6)×(List Z2)×Int×Int×Int×(List Bool)):=.ofFnB 9 [] Q9 Tryz.func9 rfl (λ_=>rfl) (show FnB Pg GG [0,1,2,3,4,10,11,12,13,14,15,24,41] Tryz.f9 [Rf zo p3,Rf zt p4,.bool p0,.i p1,.i p2] (Ext.of .normal (H8 [Rf zo p3,Rf zt p4,.bool p0,.i p1,.i p2]) [] [Bt zo Q0 8 p3,Bt zt Q0 8 p4] (by rfl)) (.gh 3 (.share (VwW.o zo Q0 p3) 0) (.gh 3 (.share (VwW.o zt Q0 p4) 0) (.call 1004 (s33 p3 p4 p0) [] [] λr586=>.br 0 (r586.2 != 0) (.fail) (.opr 4008 (Rule.makeD (ty:=Q5) (t:=32) (e:=4) (zv:=.bool false) (zc:=.bool false) false (.tmp 33) (.tmp 33) 34 (Y6 Q4 r586.1.fD) (Y6 Q4 r586.1.fD) 1 (by kernel_rfl) (by kernel_rfl) (by kernel_rfl) rfl ⟨rfl,rfl,rfl⟩ (λ_ _=>by constructor)) λ_=>.gh 7 (.len 34 ((List.replicate (Y6 Q4 r586.1.fD).toNat false).length) [(Y6 Q4 r586.1.fD).toNat] (by simp)) (.view 6002 (s34 r586.1.fq r586.1.fB r586.1.fC r586.1.fD p1 p2 p2 0 (-1) (List.replicate (Y6 Q4 r586.1.fD).toNat false)) [(VwW.o 34 Q5 (List.replicate (Y6 Q4 r586.1.fD).toNat false))] λr587=>.br 0 (!r587) (.fail) (.gh 0 (.share (VwW.o 34 Q5 (List.replicate (Y6 Q4 r586.1.fD).toNat false)) 2) (.done (0,r586.1.fq,r586.1.fB,r586.1.fC,r586.1.fD,p1,p2,(-1),(List.replicate (Y6 Q4 r586.1.fD).toNat false)))))))):TT (Int×Bool×(List Q6)×(List Q6)×(List Z2)×Int×Int×Int×(List Bool))) (λ(r:Int×Bool×(List Q6)×(List Q6)×(List Z2)×Int×Int×Int×(List Bool))=>.tup [.agg [.bool r.2.1,Sl 8 Q0 r.2.2.1,Sl 8 Q0 r.2.2.2.1,Sl 4 Q4 r.q.1,.i r.q.2.1,.i r.q.2.2.1,.i r.q.2.2.1,.i 0,.i r.q.2.2.2.1,.nilsl,Sl 1 Q5 r.q.q,.nilsl],.i r.1]) (λ(r:Int×Bool×(List Q6)×(List Q6)×(List Z2)×Int×Int×Int×(List Bool))=>Ext.of .normal [] [] [] (by rfl)) by unfold FnB;kernel_rfl)
def s27 :Sp (J7×Int):=.ofFn 27 Q9 Tryz.func27 (show FnD Pg GG [0,1] Tryz.f27 [] (.call 1001 (s30 1) [] [] λr584=>.call 1003 (s30 2) [] [] λr585=>.call 1005 (s9_1 true 9 0 [r584] [r585]) [(zo,3),(zt,5)] [] λr588=>.done ((J7.mk (H6.mk r588.2.1 r588.2.2.1 r588.2.2.2.1 r588.q.1) r588.q.2.1 r588.q.2.2.1 r588.q.2.2.1 0 r588.q.2.2.2.1 [] r588.q.q []),r588.1):TT (J7×Int)) (λr=>.tup [.agg [.bool r.1.fh.fq,Sl 8 Q0 r.1.fh.fB,Sl 8 Q0 r.1.fh.fC,Sl 4 Q4 r.1.fh.fD,.int .i64 r.1.fw,.int .i64 r.1.gc,.int .i64 r.1.fY,.int .i64 r.1.ga,.int .i64 r.1.gb,Sl 1 Z0 r.1.fT,Sl 1 Q5 r.1.fX,Sl 6 Q8 r.1.fO],.int .i64 r.2]) by unfold FnD;kernel_rfl)
def s28 :Sp (J7×Int):=.ofFn 28 Q9 Tryz.func28 (show FnD Pg GG [0,1] Tryz.f28 [] (.call 1001 (s30 2) [] [] λr589=>.call 1003 (s30 1) [] [] λr590=>.call 1005 (s9_1 false 5 0 [r589] [r590]) [(zo,3),(zt,5)] [] λr591=>.done ((J7.mk (H6.mk r591.2.1 r591.2.2.1 r591.2.2.2.1 r591.q.1) r591.q.2.1 r591.q.2.2.1 r591.q.2.2.1 0 r591.q.2.2.2.1 [] r591.q.q []),r591.1):TT (J7×Int)) (λr=>.tup [.agg [.bool r.1.fh.fq,Sl 8 Q0 r.1.fh.fB,Sl 8 Q0 r.1.fh.fC,Sl 4 Q4 r.1.fh.fD,.int .i64 r.1.fw,.int .i64 r.1.gc,.int .i64 r.1.fY,.int .i64 r.1.ga,.int .i64 r.1.gb,Sl 1 Z0 r.1.fT,Sl 1 Q5 r.1.fX,Sl 6 Q8 r.1.fO],.int .i64 r.2]) by unfold FnD;kernel_rfl)
def s29 :Sp (H0):=.ofFn 29 Q9 Tryz.func29 (show FnD Pg GG [0] Tryz.f29 [] (.call 1001 (s30 1) [] [] λr592=>.call 1003 (s30 2) [] [] λr593=>.done (H0.mk r592.fJ r593.fJ (SProbe.mk 1 0 1845494271 true 9 false (Z4.mk zb 0))):TT (H0)) (λr=>.agg (Y7.c r)) by unfold FnD;kernel_rfl)
def s31(p0 p1:List H0):Sp (Bool):=.ofFn 31 Q9 Tryz.func31 (show FnD Pg GG [0,1,4,5,10,12,13,14,24] Tryz.f31 [Sl 12 Y7 p0,Sl 12 Y7 p1] (.br 0 ((Y6 Y7 p0) != (Y6 Y7 p1)) (.fail) (.bind2 1 (.lp (λ(l597:Int)=>Ext.l .normal [(0,Sl 12 Y7 p0),(1,Sl 12 Y7 p1),(4,.bool false),(12,.i (Y6 Y7 p0)),(13,.i l597)] []) (λl597=>.br 0 (decide (l597 < (Y6 Y7 p0))) (.row 6003 Y7 p0 l597.toNat (decide (0<=l597)) λx598=>.row 6007 Y7 p1 l597.toNat (decide (0<=l597)) λx599=>.br 0 (!((decide (x598.fR.fc=x599.fR.fc))&&((x598.fR.fe==x599.fR.fe)&&((decide (x598.fU.fc=x599.fU.fc))&&((x598.fU.fe==x599.fU.fe)&&((x598.fy.fm==x599.fy.fm)&&((x598.fy.fj==x599.fy.fj)&&((x598.fy.fA==x599.fy.fA)&&((x598.fy.fq==x599.fy.fq)&&((x598.fy.fw==x599.fy.fw)&&((x598.fy.fE==x599.fy.fE)&&((decide (x598.fy.ft.fc=x599.fy.ft.fc))&&((x598.fy.ft.fe==x599.fy.ft.fe)&&true))))))))))))) (.fail) (.done (.inl (Q7 (l597+1))))) (.done (.inr (.inr ())))) 0) (λ(e600:Unit)=>Ext.l .ret [(4,.bool false)] []) (λ(e601:Unit)=>Ext.l (.exit 0) [(4,.bool false)] []) (λ_=>.fail) (λe601=>.done true)):TT (Bool)) (λr=>.bool r) by unfold FnD;kernel_rfl)
def g32(p0 p1:List Int):TT (Bool):=.br 0 ((Y6 Z0 p0) != (Y6 Z0 p1)) (.fail) (.bind2 1 (.lp (λ(l605:Int)=>Ext.l .normal [(0,Sl 1 Z0 p0),(1,Sl 1 Z0 p1),(4,.bool false),(12,.i (Y6 Z0 p0)),(13,.i l605)] []) (λl605=>.br 0 (decide (l605 < (Y6 Z0 p0))) (.row 6003 Z0 p0 l605.toNat (decide (0<=l605)) λx606=>.row 6007 Z0 p1 l605.toNat (decide (0<=l605)) λx607=>.br 0 (x606 != x607) (.fail) (.done (.inl (Q7 (l605+1))))) (.done (.inr (.inr ())))) 0) (λ(e608:Unit)=>Ext.l .ret [(4,.bool false)] []) (λ(e609:Unit)=>Ext.l (.exit 0) [(4,.bool false)] []) (λ_=>.fail) (λe609=>.done true))
def s32(p0 p1:List Int):Sp (Bool):=.ofFn 32 Q9 Tryz.func32 (show FnD Pg GG [0,1,4,5,10,12,13,14,24] Tryz.f32 [Sl 1 Z0 p0,Sl 1 Z0 p1] (g32 p0 p1) (λr=>.bool r) by unfold FnD;kernel_rfl)
end Go.Proofs.YtjpahkpfkohfkaaGreatDoor
