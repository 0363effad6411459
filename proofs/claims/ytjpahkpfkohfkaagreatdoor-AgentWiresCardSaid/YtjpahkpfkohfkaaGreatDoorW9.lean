/- The attributes of octets (stun.attributes), collected: a range over a function, put together by hand; where octets are wrong it panics. Guides and co ..; no conditions. -/
import Derived.Test.YtjpahkpfkohfkaaGreatDoorW8
import Derived.Test.YtjpahkpfkohfkaaGreatDoorW7
import Derived.Test.YtjpahkpfkohfkaaGreatDoorW6
import Derived.Laws.Entries
import Derived.Lib.ByteType
import Derived.WideLaws
import Derived.KernelRfl
set_option linter.unusedVariables false
set_option linter.unusedSimpArgs false
set_option maxRecDepth 100000
noncomputable section
namespace Go.Proofs.YtjpahkpfkohfkaaGreatDoor
open Go Go.EV
def atC(x:Q3):List V:=[.int .i64 x.fm,.str x.fp]
def atTs:List (Nat×V):=[(2,.ptr 1000002 0 0),(6,.fn 210 [] [.ptr 2000000 0 0])]
def atL(s:za)(o:V):List (Nat×Blk):=[(1000002,⟨1,true,[[o]]⟩),(2000000,⟨1,true,[[.str s]]⟩)]
def atT(out:List Q3):List BT:=[BT.of 1900070 Q2 2 out true]
def atX(ts:List (Nat×V))(s:za)(out:List Q3):Ext:=Ext.of .normal ts (atL s (.ref 1900070 0 out.length)) (atT out) (by rfl)
def atB(s:za)(out:List Q3):List (Nat×Blk):=(atX [] s out).bs
def atR:Code:=cB (cR (cL (cR (Tryz.f209.body.getD .skip))))
def atAs:Code:=rAssign atR
def atBd:Code:=rBody atR
section
variable (s:za) (out:List Q3) (x:Q3)
def xAa:Ext:=atX ((7,.agg (atC x)) :: atTs) s out
def xAb:Ext:=Ext.of .normal (atTs++[(5,.ptr 5 0 0)]) ((5,⟨2,true,[atC x]⟩) :: atL s (.ref 1900070 0 out.length)) (atT out) (by rfl)
def xAd:Ext:=Ext.of .normal [] (atL s (.ref 11 0 (out++[x]).length)) [BT.of 11 Q2 2 (out++[x]) true] (by rfl)
theorem kAa:Y2 Tryz.prog GG [2,5,6] 13 atAs (xAa s out x) (.done ():TT Unit) (λ_=>xAb s out x):=by unfold Y2;kernel_rfl
def gAd:TT Unit:=.app 3004 Q2 out [x] 24 false (by grind) (.done ())
theorem kAd:Y2 Tryz.prog GG [11] 13 atBd (xAb s out x) (gAd out x) (λ_=>xAd s out x):=by unfold Y2;kernel_rfl
end
theorem mobA{s:za}{out:List Q3}{x:Q3}{g:St}(h:Gst GG g ((xAd s out x).D 13).st):Gst GG g (E1 13 (λ_=>.undef) (ofL (atB s (out++[x])))):=
 Gst.trans h (Gst.mob (lits:=atL s (.ref 11 0 (out++[x]).length)) (rest:=[]) (kd:=(BT.of 11 Q2 2 (out++[x]) true).k) (d:=11) (m:=1900070) (n:=13)
  (by decide) (by decide) (by decide) (by decide:([1000002,2000000,11]:List Nat).Nodup) (Q2.data _) (by
   grind) (by rfl) (by rfl))
theorem roundAtt(s:za)(out:List Q3)(x:Q3)(hb:(gAd out x).run=some ()) :
  RoundT Tryz.prog GG 13 (tOf atTs) [7] atAs atBd (ofL (atB s out)) [.agg (atC x)] (λe b'=>e=.normal/\b'=ofL (atB s (out++[x]))):=by
 refine⟨((xAb s out x).D 13).st,?_,?_⟩
 ·have h:=(kAa s out x).tv Q9 (r:=()) rfl (by rfl)
  have e:((xAa s out x).D 13).st=setP (E1 13 (tOf atTs) (ofL (atB s out))) ([7].zip [.agg (atC x)]):=by
   rw[O8 (by rfl)]
   exact(setP_susp 13 atTs _ 7 (.agg (atC x))).symm
  rw[e] at h
  exact h
 ·refine((kAd s out x).tv Q9 hb (by rfl)).mono λe s' hg=>?_
  obtain⟨rfl,g⟩:=hg
  exact⟨_,13,⟨rfl,rfl⟩,mobA g⟩
def atArgs(l:Nat):List V:=[.yld l,.ptr 2000000 0 0]
def aTl:Code:=cR (cR aL)
def ops10:Array Oper:=rOps (cL (cL (cR (cR (cR (cR (cR (cR (cR (cR aBk))))))))))
theorem eAt:cAt=.seq (cL cAt) (.block 0 (.loop aL)):=by kernel_rfl
theorem eAL:aL=.seq (.seq (cL (cL aL)) (.cond (.tmp 16) .skip (.exit 0))) (.seq (.block 1 aBk) aTl):=by kernel_rfl
theorem eABk:aBk=.seq (cL aBk) (.seq (cL (cR aBk)) (.seq (cL (cR (cR aBk))) (.seq (cL (cR (cR (cR aBk)))) (.seq (cL (cR (cR (cR (cR aBk))))) (.seq (cL (cR (cR (cR (cR (cR aBk)))))) (.seq (cL (cR (cR (cR (cR (cR (cR aBk))))))) (.seq (cL (cR (cR (cR (cR (cR (cR (cR aBk))))))))
 (.seq (.seq (.region 10 ops10 false) (.cond (.tmp 67) .ret .skip)) (cR (cR (cR (cR (cR (cR (cR (cR (cR aBk))))))))))))))))):=by kernel_rfl
abbrev AI4:=za×Int×Int×Int
abbrev AS4:=za×Int×Int×za
def atN(u2:AI4)(u6:AS4):Q3:=⟨u2.2.2.1,u6.2.2.2⟩
section
variable (l:Nat) (s:za) (out:List Q3) (S:za) (a:Int) (u2 u4:AI4) (u6 u8:AS4)
def xAt10:Ext:=Ext.of .normal [(0,.yld l),(1,.ptr 2000000 0 0),(3,.ptr 3 0 0),(5,.ptr 5 0 0),(62,.yld l),(65,.agg (atC (atN u2 u6)))]
 ([(3,⟨2,true,[[.str S,.int .i64 a]]⟩),(5,⟨2,true,[[.str u8.1,.int .i64 u8.2.1]]⟩)]++atL s (.ref 1900070 0 out.length)) (atT out) (by rfl)
def tAt(u8:AS4)(x:Q3):List (Nat×V):=[(0,.yld l),(1,.ptr 2000000 0 0),(3,.ptr 3 0 0),(5,.snap [.str u8.1,.int .i64 u8.2.1]),(62,.yld l),(65,.agg (atC x))]
def xAtK(x:Q3):Ext:=Ext.of .normal (tAt l u8 x) ((3,⟨2,true,[[.str S,.i a]]⟩) :: atL s (.ref 1900070 0 out.length)) (atT out) (by rfl)
theorem kA10:F6 Tryz.prog GG [0,1,3,5,62,65] 70 10 ops10 4 (xeAt9 l s out S a u2 u4 u6 u8 ()) (.done ():TT Unit) (λ_=>xAt10 l s out S a u2 u6 u8):=by unfold F6;kernel_rfl
theorem snapAt{g:St}(h:Gst GG g ((xAt10 l s out S a u2 u6 u8).D 70).st):Gst GG g ((xAtK l s out S a u8 (atN u2 u6)).D 70).st:=
 Gst.trans h (Gst.trans (Gst.snapT (t:=5) (b:=5) (k:=⟨2,true,[[.str u8.1,.int .i64 u8.2.1]]⟩) (row:=[.str u8.1,.int .i64 u8.2.1]) rfl rfl rfl (by show 2 < J8;decide) (λc hc=>by
  simp only[zT,wg,or_false] at hc
  rcases hc with rfl|rfl<;>rfl)) (E9 (xAtK l s out S a u8 (atN u2 u6)) (by rfl) rfl ⟨by rfl,by rfl⟩))
end
def malV:Value:=.iface 199 (.agg #[])
def thrE:Exit:=.panic (D5 malV)
def gMustP(c:Bool):TT (Unit⊕Unit):=
 .br 0 (!c) (.opr 1002 (Rule.ifc 199 (.tmp 4) 5 (.agg []) (.agg #[]) rfl (by kernel_rfl)) λ_=>.pan 1003 (.done (.inr ()))) (.done (.inl ()))
theorem kMustP(c:Bool):FnP Tryz.prog GG [0,3] Tryz.f130 [.bool c] (Ext.of .normal (H8 [.bool c]) [] [] (by rfl)) (gMustP c) (λ_=>.tup []) (λ_=>Ext.l .normal [] []) (λ_=>malV) (λ_=>Ext.l .normal [] []):=by unfold FnP;kernel_rfl
def sMustP(c:Bool):SpecP Tryz.prog GG Unit Unit:=.ofFn 130 [] Q9 Tryz.func130 rfl (λ_=>rfl) (λ_=>rfl) (kMustP c)
section
variable (l:Nat) (s:za) (out:List Q3) (S:za) (a:Int) (u2 u4:AI4) (u6 u8:AS4)
def xAtP:Ext:=Ext.of thrE [] (atL s (.ref 1900070 0 out.length)) (atT out) (by rfl)
def mustT(a:Nat)(c:Bool):TT (Unit⊕Unit):=.callp a (sMustP c) [] [] (λ_=>.done (.inl ())) (λ_=>.done (.inr ()))
theorem kAt3P:Y2 Tryz.prog GG [0,1,3,4,5,6] 70 (cL (cR aBk)) (xsAt3 l s out S a u2) (mustT 3003 (u2.2.2.2==0)) (Sum.elim (xeAt3 l s out S a u2) λ_=>xAtP s out):=by unfold Y2;kernel_rfl
theorem kAt5P:Y2 Tryz.prog GG [0,1,3,4,5,6,7] 70 (cL (cR (cR (cR aBk)))) (xsAt5 l s out S a u2 u4) (mustT 5003 (u4.2.2.1==0)) (Sum.elim (xeAt5 l s out S a u2 u4) λ_=>xAtP s out):=by unfold Y2;kernel_rfl
theorem kAt7P:Y2 Tryz.prog GG [0,1,3,4,5,6,7,8] 70 (cL (cR (cR (cR (cR (cR aBk)))))) (xsAt7 l s out S a u2 u4 u6) (mustT 7003 (u6.2.2.1==0)) (Sum.elim (xeAt7 l s out S a u2 u4 u6) λ_=>xAtP s out):=by unfold Y2;kernel_rfl
def gAt9P:TT (Unit⊕Unit):=.br 9004 (u8.2.2.1==0) (.call 9005 (s212 u8.2.2.2) [] [] λr=>mustT 9008 (decide (r=zb))) (mustT 9008 false)
theorem kAt9P:Y2 Tryz.prog GG [0,1,3,4,5,6,8,9] 70 (cL (cR (cR (cR (cR (cR (cR (cR aBk)))))))) (xsAt9 l s out S a u2 u4 u6 u8) (gAt9P u8) (Sum.elim (xeAt9 l s out S a u2 u4 u6 u8) λ_=>xAtP s out):=by unfold Y2;kernel_rfl
end
def atBody(s:za)(S:za)(a:Int):Option ((Q3×za×Int)⊕Unit):=
 (gAt2 0 s [] S a).run.bind λu2=>(mustT 3003 (u2.2.2.2==0)).run.bind (Sum.elim (λ_=>(gAt4 0 s [] S a u2).run.bind λu4=>(mustT 5003 (u4.2.2.1==0)).run.bind (Sum.elim (λ_=>(gAt6 0 s [] S a u2 u4).run.bind λu6=>
  (mustT 7003 (u6.2.2.1==0)).run.bind (Sum.elim (λ_=>(gAt8 0 s [] S a u2 u4 u6).run.bind λu8=>(gAt9P u8).run.bind (Sum.elim (λ_=>some (.inl (atN u2 u6,u8.1,u8.2.1))) λ_=>some (.inr ()))) λ_=>some (.inr ()))) λ_=>some (.inr ()))) λ_=>some (.inr ()))
abbrev ALL2:=List Q3⊕List Q3
def atStep(s:za)(y:za×Int×List Q3):Option ((za×Int×List Q3)⊕ALL2):=
 bif decide (y.2.1 < (s.size:Int)) then
  ((atBody s y.1 y.2.1).bind (Sum.elim (λq=>(gAd y.2.2 q.1).run.bind λ_=>some (.inl (q.2.1,q.2.2,y.2.2++[q.1]))) λ_=>some (.inr (.inr y.2.2))))
 else some (.inr (.inl y.2.2))
def attP(s:za):Option ALL2:=S3 (atStep s) FUEL (s,0,[])
def attM(s:za):Option (List Q3):=(attP s).bind (Sum.elim some λ_=>none)
def attQ(s:za):Option (List Q3):=(attP s).bind (Sum.elim (λ_=>none) some)
def atYL:YL:=⟨13,tOf atTs,#[7],atAs,atBd⟩
theorem atB_ok(s:za)(out:List Q3)(p:Nat×Blk)(h:p∈atB s out):p.2.size < J8/\okL uTop p.2.rows.flatten=true:=by
 have h':p∈atL s (.ref 1900070 0 out.length)++(atT out).map λx=>(x.id,x.k):=h
 rcases zU.1 h' with h|h
 ·have all:((atL s (.ref 1900070 0 out.length)).all λp=>decide (p.2.size < J8)&&okL uTop p.2.rows.flatten)=true:=by rfl
  grind
 ·refine⟨?_,okL_refs _ λb hb=>by rw[(bts_dat _ h).refs] at hb;simp at hb⟩
  obtain⟨x,hx,rfl⟩:=zF.1 h
  have hx:x∈[BT.of 1900070 Q2 2 out true]:=hx
  rw[we] at hx
  subst hx
  exact(by decide:2 < J8)
theorem atB_top(s:za)(out:List Q3)(p:Nat×Blk)(h:p∈atB s out):uTop p.1=true:=by
 have all:((atB s out).all λp=>uTop p.1)=true:=by rfl
 grind
theorem keepT_tOf(c:Nat)(l l2:List (Nat×V))(h:(l.map λp=>(p.1,S4 c (λ_=>p.2) 0))=l2)(i:Nat):S4 c (tOf l) i=tOf l2 i:=by
 subst h
 induction l with
 | nil=>rfl
 | cons p l ih=>
  grind [tOf,S4]
theorem iterAtt(s:za){r:ALL2}(h:attP s=some r) :
  IterP Tryz.prog GG cAt 70 atArgs (ofL (atB s [])) atYL (λe b=>e=.normal/\∃o,r=.inl o/\b=ofL (atB s o)) (λe b=>e=thrE/\∃o,r=.inr o/\b=ofL (atB s o)):=by
 refine IterP.of λl=>?_
 have e0:entry 70 (atArgs l) (ofL (atB s []))=((atX (H8 (atArgs l)) s []).D 70).st:=(entry_ext (x:=atX (H8 (atArgs l)) s []) (by rfl) (by rfl) 70).symm
 rw[e0,eAt]
 show YT _ _ _ _ _ ⟨.normal,((xsAt0 l s []).D 70).st⟩ _
 refine YT.seq (YT.piece (kAt0 l s []) Q9 rfl (by rfl) λst g=>?_)
 show YT _ _ _ _ _ _ _
 refine YT.block ?_
 refine YT.loop (λm st=>st.x=.normal/\∃y:za×Int×List Q3,Gst GG st.st ((xsAt1 l s y.2.2 y.1 y.2.1).D 70).st/\S3 (atStep s) m y=some r) (λm st hI=>?_) (n:=FUEL) ⟨rfl,(s,0,[]),g,h⟩
 obtain⟨x,st⟩:=st
 obtain⟨rfl,⟨S,a,out⟩,g,hit⟩:=hI
 refine YT.gst g ?_
 cases m with
 | zero=>simp[S3] at hit
 | succ m=>
  rw[iter_succ] at hit
  rw[eAL]
  refine YT.seq (YT.seq (YT.piece (kAt1 l s out S a) Q9 rfl (by rfl) λst g=>?_))
  show YT _ _ _ _ _ _ _
  refine YT.gst g ?_
  cases hc:decide (a < (s.size:Int)) with
  | false=>
   have hs0:atStep s (S,a,out)=some (.inr (.inl out)):=by grind [atStep]
   rw[hs0] at hit
   obtain rfl:.inl out=r:=wq hit
   refine YT.cond (b:=false) (by show some (V.bool (decide (a < (s.size:Int))))=_;rw[hc]) (YT.exit ?_)
   refine⟨70,tOf (atX [(0,.yld l)] s out).ts,ofL (atB s out),?_,(by grind)⟩
   show Gst GG ((xeAt1 l s out S a ()).D 70).st _
   have e1:=O8 (x:=atX [(0,.yld l)] s out) (by rfl) 70
   show Gst GG _ (E1 70 (tOf (atX [(0,.yld l)] s out).ts) (ofL (atX [(0,.yld l)] s out).bs))
   rw[<-e1]
   exact E9 _ (by rfl) rfl ⟨by rfl,by rfl⟩
  | true=>
   refine YT.cond (b:=true) (by show some (V.bool (decide (a < (s.size:Int))))=_;rw[hc]) (YT.skip ?_)
   show YT _ _ _ _ _ _ _
   refine YT.gst (st':=((xsAt2 l s out S a).D 70).st) (E9 (xsAt2 l s out S a) (by rfl) rfl ⟨by rfl,by rfl⟩) ?_
   have hs0:atStep s (S,a,out)=((atBody s S a).bind (Sum.elim (λq=>(gAd out q.1).run.bind λ_=>some (.inl (q.2.1,q.2.2,out++[q.1]))) λ_=>some (.inr (.inr out)))):=by grind [atStep]
   rw[hs0] at hit
   cases hq:atBody s S a with
   | none=>grind
   | some q=>
   rw[hq] at hit
   simp only[zP] at hit
   have thr:∀{st:St},q=.inr ()->Gst GG st ((xAtP s out).D 70).st->∃ni ti b',Gst GG st (E1 ni ti b')/\((thrE=.normal\/thrE=.ret)/\(Exit.normal=.normal/\∃o,r=.inl o/\b'=ofL (atB s o))\/(∃ch,thrE=.panic ch)/\thrE=thrE/\∃o,r=.inr o/\b'=ofL (atB s o)):=λ{st} hq g=>by
    subst hq
    have hr:(Sum.inr out:ALL2)=r:=by grind
    refine⟨70,tOf (xAtP s out).ts,ofL (atB s out),?_,.inr ⟨⟨_,rfl⟩,rfl,out,hr.symm,rfl⟩⟩
    have e1:=O8 (x:=xAtP s out) (by rfl) 70
    rw[e1] at g
    exact g
   rw[eABk]
   refine YT.seq (YT.block ?_)
   unfold atBody at hq
   obtain⟨u2,r2,hq⟩:=zL.1 hq
   obtain⟨u3,r3,hq⟩:=zL.1 hq
   refine YT.seq (YT.piece (kAt2 l s out S a) Q9 (r:=u2) r2 (by rfl) λst g=>?_)
   show YT _ _ _ _ _ _ _
   rcases u3 with u3|u3
   rotate_left
   ·exact YT.gst g (YT.seq (YT.piece (kAt3P l s out S a u2) Q9 (r:=.inr u3) r3 (by rfl) λst g=>thr (by grind) g))
   simp only[Sum.elim_inl] at hq
   obtain⟨u4,r4,hq⟩:=zL.1 hq
   obtain⟨u5,r5,hq⟩:=zL.1 hq
   refine YT.gst g (YT.seq (YT.piece (kAt3P l s out S a u2) Q9 (r:=.inl u3) r3 (by rfl) λst g=>?_))
   show YT _ _ _ _ _ _ _
   refine YT.gst g (YT.seq (YT.piece (kAt4 l s out S a u2) Q9 (r:=u4) r4 (by rfl) λst g=>?_))
   show YT _ _ _ _ _ _ _
   rcases u5 with u5|u5
   rotate_left
   ·exact YT.gst g (YT.seq (YT.piece (kAt5P l s out S a u2 u4) Q9 (r:=.inr u5) r5 (by rfl) λst g=>thr (by grind) g))
   simp only[Sum.elim_inl] at hq
   obtain⟨u6,r6,hq⟩:=zL.1 hq
   obtain⟨u7,r7,hq⟩:=zL.1 hq
   refine YT.gst g (YT.seq (YT.piece (kAt5P l s out S a u2 u4) Q9 (r:=.inl u5) r5 (by rfl) λst g=>?_))
   show YT _ _ _ _ _ _ _
   refine YT.gst g (YT.seq (YT.piece (kAt6 l s out S a u2 u4) Q9 (r:=u6) r6 (by rfl) λst g=>?_))
   show YT _ _ _ _ _ _ _
   rcases u7 with u7|u7
   rotate_left
   ·exact YT.gst g (YT.seq (YT.piece (kAt7P l s out S a u2 u4 u6) Q9 (r:=.inr u7) r7 (by rfl) λst g=>thr (by grind) g))
   simp only[Sum.elim_inl] at hq
   obtain⟨u8,r8,hq⟩:=zL.1 hq
   obtain⟨u9,r9,hq⟩:=zL.1 hq
   refine YT.gst g (YT.seq (YT.piece (kAt7P l s out S a u2 u4 u6) Q9 (r:=.inl u7) r7 (by rfl) λst g=>?_))
   show YT _ _ _ _ _ _ _
   refine YT.gst g (YT.seq (YT.piece (kAt8 l s out S a u2 u4 u6) Q9 (r:=u8) r8 (by rfl) λst g=>?_))
   show YT _ _ _ _ _ _ _
   rcases u9 with u9|u9
   rotate_left
   ·exact YT.gst g (YT.seq (YT.piece (kAt9P l s out S a u2 u4 u6 u8) Q9 (r:=.inr u9) r9 (by rfl) λst g=>thr (by grind) g))
   simp only[Sum.elim_inl,zp] at hq
   subst hq
   simp only[Sum.elim_inl] at hit
   cases hd:(gAd out (atN u2 u6)).run with
   | none=>grind
   | some un=>
   rw[hd] at hit
   simp only[zP] at hit
   refine YT.gst g (YT.seq (YT.piece (kAt9P l s out S a u2 u4 u6 u8) Q9 (r:=.inl u9) r9 (by rfl) λst g=>?_))
   show YT _ _ _ _ _ _ _
   refine YT.gst g (YT.seq (YT.seq (YT.region ?_)))
   show K6 _ _ _ _ _ ([0,1,2,3]++[4,5]) _ _
   refine K6.tv ((kA10 l s out S a u2 u4 u6 u8).tv Q9 (r:=()) rfl (by rfl)) λe st hq'=>⟨hq'.1,K6.gst (snapAt l s out S a u2 u6 u8 hq'.2) ?_⟩
   rw[ext_keep (x:=xAtK l s out S a u8 (atN u2 u6)) (bs:=atB s out) rfl (by rfl) 70]
   refine K6.yieldK (x0:=.normal) (c:=3) (k:=⟨2,true,[[.str S,.int .i64 a]]⟩) (hi:=rfl) (by rfl) rfl (by rfl) (by rfl) rfl rfl (λi=>?_) (λi=>tOf_ok (by rfl) i) ?_ rfl (roundAtt s out (atN u2 u6) hd) (λe b' h=>.inl h.1) rfl rfl ?_ (by show 2 < J8;decide) rfl ?_ ?_ ?_ (Nat.zero_lt_one) ?_
   ·have ht:S4 3 (tOf (tAt l u8 (atN u2 u6))) i=tOf [(0,.yld l),(1,.ptr 2000000 0 0),(3,.undef),(5,.snap [.str u8.1,.int .i64 u8.2.1]),(62,.yld l),(65,.agg (atC (atN u2 u6)))] i:=keepT_tOf 3 _ _ (by rfl) i
    show okV I9 (S4 3 (tOf (tAt l u8 (atN u2 u6))) i)=true
    rw[ht]
    exact tOf_ok (by rfl) i
   ·intro p hp
    have:p∈[7]:=hp
    simp at this
    subst this
    exact(by decide:7 < 13)
   ·intro j q hj
    obtain⟨p,h1,rfl,rfl⟩:=find_b hj
    exact atB_ok s out p h1
   ·intro j q hj
    obtain⟨p,h1,rfl,rfl⟩:=find_b hj
    exact atB_top s out p h1
   ·intro e b' h
    rw[h.2];rfl
   ·intro rw_ hr v hv
    simp only[zT,wg,or_false] at hr
    subst hr
    simp only[zT,wg,or_false] at hv
    rcases hv with rfl|rfl<;>rfl
   ·intro e b' h
    obtain⟨rfl,rfl⟩:=h
    refine K6.step rfl (K6.nil ?_)
    show YT _ _ _ _ _ _ _
    refine YT.cond (b:=false) rfl (YT.skip ?_)
    show YT _ _ _ _ _ _ _
    refine YT.gst (st':=((xsAt11 l s (out++[atN u2 u6]) S a u8.1 u8.2.1).D 70).st) (E9 (xsAt11 l s (out++[atN u2 u6]) S a u8.1 u8.2.1) (by rfl) rfl ⟨by rfl,by rfl⟩) ?_
    refine YT.piece (kAt11 l s (out++[atN u2 u6]) S a u8.1 u8.2.1) Q9 (r:=()) rfl (by rfl) λst g=>?_
    show YT _ _ _ _ _ _ _
    refine YT.gst g ?_
    refine YT.piece (kAt12 l s (out++[atN u2 u6]) u8.1 u8.2.1) Q9 (r:=()) rfl (by rfl) λst g=>?_
    exact⟨m,Nat.lt_succ_self m,rfl,(u8.1,u8.2.1,out++[atN u2 u6]),g,hit⟩
def afTs:List (Nat×V):=[(2,.ptr 2 0 0)]
def afL(s:za)(out:List Q3):List (Nat×Blk):=[(2,⟨1,true,[[.ref 900070 0 out.length]]⟩),(1000000,⟨1,true,[[.str s]]⟩)]
def afT(out:List Q3):List BT:=[BT.of 900070 Q2 2 out true]
def xAf(s:za)(out:List Q3):Ext:=Ext.of .normal (afTs++[(6,.fn 210 [] [.ptr 1000000 0 0])]) (afL s out) (afT out) (by rfl)
def eAf(s:za)(out:List Q3):Ext:=Ext.of .normal afTs (afL s out) (afT out) (by rfl)
theorem bsAtt(s:za)(out:List Q3):shB (ofL (xAf s out).bs)=ofL (atB s out):=by
 rw[shB_ofL]
 have:((xAf s out).bs.map λp=>(sh p.1,p.2.ren sh))=atB s out:=by
  simp only[xAf,Ext.of,afL,afT,List.cons_append,List.nil_append,zW,List.map_nil,BT.of,Blk.ren,sh_rows]
  kernel_rfl
 rw[this]
def eAfP(s:za)(out:List Q3):Ext:=Ext.of thrE [] (afL s out) (afT out) (by rfl)
def eAfS(s:za):ALL2->Ext:=Sum.elim (eAf s) (eAfP s)
theorem loopAtt(s:za){q:ALL2}(h:attP s=some q) :
  TV Tryz.prog GG (.rangeFunc (.tmp 6) #[7] atAs atBd) ((xAf s []).D 13).st (λe st=>e=(eAfS s q).ex/\Gst GG st ((eAfS s q).D 13).st):=by
 have ht:(λi=>W5 sh (((xAf s []).D 13).st.t i))=tOf atTs:=by
  have:((xAf s []).D 13).st.t=tOf (xAf s []).ts:=rfl
  rw[this,tOf_shift]
  have:((xAf s []).ts.map λp=>(p.1,W5 sh p.2))=atTs:=by kernel_rfl
  rw[this]
 have hb:Tryz.f210.body=some cAt:=by kernel_rfl
 have fin:∀r:List Q3,(X0 13 (xAf s []).ts (xAf s r).bs (xAf s []).us).known:=λr=>by
  refine⟨λi b hm=>?_,λi k hk=>?_⟩
  ·have hm':b∈U8 (tOf (xAf s []).ts i):=hm
   unfold tOf at hm'
   cases hf:(xAf s []).ts.find? (λp=>p.1==i) with
   | none=>grind [U8]
   | some p=>
    rw[hf] at hm'
    have all:((xAf s []).ts.all λp=>(U8 p.2).all λb=>(xAf s []).us.contains b)=true:=by rfl
    have:=zH.1 (zH.1 all p (wU hf)) b hm'
    show ((xAf s []).us.contains b || uTop b)=true
    rw[this];rfl
  ·obtain⟨q,h1,rfl,rfl⟩:=find_b (show ofL (xAf s r).bs i=some k from hk)
   have husl:(xAf s r).us=(xAf s []).us:=rfl
   refine⟨?_,λb hm=>?_⟩
   ·show ((xAf s []).us.contains q.1 || uTop q.1)=true
    rw[<-husl]
    simp only[Ext.us,wd,wc,zG]
    grind
   ·have:q∈afL s r++(afT r).map λx=>(x.id,x.k):=h1
    rcases zU.1 this with h2|h2
    ·have all:((afL s r).all λq=>(W1 q.2.rows.flatten).all λb=>(xAf s []).us.contains b)=true:=by rfl
     have:=zH.1 (zH.1 all q h2) b hm
     show ((xAf s []).us.contains b || uTop b)=true
     rw[this];rfl
    ·have hdat:=bts_dat _ h2
     rw[hdat.refs] at hm;simp at hm
 refine TV.rangeP (f:=210) (fi:=Tryz.f210) (c:=cAt) (first:=[]) (caps:=[.ptr 2000000 0 0]) (R:=λe b=>e=.normal/\∃o,q=.inl o/\b=ofL (atB s o)) (Rp:=λe b=>e=thrE/\∃o,q=.inr o/\b=ofL (atB s o)) ?_ Tryz.func210 hb (by kernel_rfl) (by kernel_rfl) ?_ (λi=>?_) ?_ ?_ ?_
 ·show some ((λi=>W5 sh (((xAf s []).D 13).st.t i)) 6)=_
  rw[ht];rfl
 ·intro b k hk
  obtain⟨q,h1,rfl,_⟩:=find_b (show ofL (xAf s []).bs b=some k from hk)
  show (((xAf s []).us).contains q.1 || uTop q.1)=true
  simp only[Ext.us,wd,wc,zG]
  grind
 ·have:=congrFun ht i
  rw[show W5 sh (((xAf s []).D 13).st.t i)=tOf atTs i from this]
  exact tOf_ok (by rfl) i
 ·have hbb:shB ((xAf s []).D 13).st.b=ofL (atB s []):=bsAtt s []
  rw[ht,hbb]
  have e:max Tryz.f210.ntmps (([]:List V).length+1+[V.ptr 2000000 0 0].length)=70:=by kernel_rfl
  rw[e]
  exact iterAtt s h
 ·intro e b' ho
  obtain⟨rfl,r,rfl,rfl⟩:=ho
  exact⟨.inl rfl,ofL (xAf s r).bs,(bsAtt s r).symm,fin r,rfl,E9 (eAf s r) (by rfl) rfl ⟨by rfl,by rfl⟩⟩
 ·intro e b' ho
  obtain⟨rfl,r,rfl,rfl⟩:=ho
  exact⟨ofL (xAf s r).bs,(bsAtt s r).symm,fin r,rfl,E9 (eAfP s r) (by rfl) rfl ⟨by rfl,by rfl⟩⟩
theorem attM_iff{s:za}{r:List Q3}:attM s=some r↔attP s=some (.inl r):=by
 unfold attM
 cases attP s with
 | none=>simp
 | some q=>grind
theorem attQ_iff{s:za}{r:List Q3}:attQ s=some r↔attP s=some (.inr r):=by
 unfold attQ
 cases attP s with
 | none=>simp
 | some q=>grind
def subAtt(s:za):Sub Tryz.prog GG (List Q3):=
 ⟨.rangeFunc (.tmp 6) #[7] atAs atBd,13,xAf s [],attM s,eAf s,λ_ h=>loopAtt s (attM_iff.1 h)⟩
def subAttQ(s:za):Sub Tryz.prog GG (List Q3):=
 ⟨.rangeFunc (.tmp 6) #[7] atAs atBd,13,xAf s [],attQ s,eAfP s,λ_ h=>loopAtt s (attQ_iff.1 h)⟩
def cDe:Code:=Tryz.f60.body.getD .skip
def gDe0(s:za):TT (Unit):=
 .done ()
def xsDe0(s:za):Ext:=Ext.of .normal [(0,.str s)] [] [] (by rfl)
def xeDe0(s:za):(Unit)->Ext:=λ(r:Unit)=>Ext.of .normal [(1,.ptr 1 0 0),(2,.ptr 2 0 0),(3,.ptr 3 0 0)] [(1,⟨1,true,[[.str s]]⟩),(2,⟨4,true,[[.i 0,.i 0,.str zb,.nilsl]]⟩),(3,⟨1,true,[[.i 0]]⟩)] [] (by rfl)
theorem kDe0(s:za):Y2 Tryz.prog GG [0,1,2,3] 73 (cL cDe) (xsDe0 s) (gDe0 s) (xeDe0 s):=by unfold Y2;kernel_rfl
def gDe1(s:za):TT (Unit):=
 .br 0 (decide ((1200:Int) < (s.size:Int)))
 (.fail)
 (.br 0 (decide ((s.size:Int) < 20))
  (.fail)
  (.done ()))
def xsDe1(s:za):Ext:=Ext.of .normal [(1,.ptr 1 0 0),(2,.ptr 2 0 0),(3,.ptr 3 0 0)] [(1,⟨1,true,[[.str s]]⟩),(2,⟨4,true,[[.i 0,.i 0,.str zb,.nilsl]]⟩),(3,⟨1,true,[[.i 0]]⟩)] [] (by rfl)
def xeDe1(s:za):(Unit)->Ext:=λ(r:Unit)=>Ext.of .normal [(1,.ptr 1 0 0),(2,.ptr 2 0 0),(3,.ptr 3 0 0)] [(1,⟨1,true,[[.str s]]⟩),(2,⟨4,true,[[.i 0,.i 0,.str zb,.nilsl]]⟩),(3,⟨1,true,[[.i 0]]⟩)] [] (by rfl)
theorem kDe1(s:za):Y2 Tryz.prog GG [1,2,3,7,12] 73 (cL (cR cDe)) (xsDe1 s) (gDe1 s) (xeDe1 s):=by unfold Y2;kernel_rfl
def g128(p0 p1:Int)(p2:za):TT (Int):=.chk 1004 ((decide (0<=p1)&&decide (p1<=(p2.size:Int)))&&(decide (0<=p0)&&decide (p0<=(p1.toNat:Int)))) (.call 1009 (s129 (U5.mk (p2.extract p0.toNat p1.toNat) 0) (Q7 (p1 - p0))) [] [] λr158=>.done r158.1)
def s128(p0 p1:Int)(p2:za):Sp (Int):=.ofFn 128 Q9 Tryz.func128 (show FnD Pg GG [0,1,2,5,6] Tryz.f128 [.i p0,.i p1,.snap [.str p2]] (g128 p0 p1 p2) (λr=>.int .i64 r) by unfold FnD;kernel_rfl)
def s132(p0:za):Sp (Unit):=.ofFnB 132 [] Q9 Tryz.func132 rfl (λ_=>rfl) (show FnB Pg GG [0,1,2] Tryz.f132 [.str p0] (Ext.of .normal (H8 [.str p0]) [] [] (by rfl)) (.done ():TT (Unit)) (λ(r:Unit)=>.fn 210 [] [.ptr 1 0 0]) (λ(r:Unit)=>Ext.of .normal [] [(1,⟨1,true,[[.str p0]]⟩)] [] (by rfl)) by unfold FnB;kernel_rfl)
def g209(p0:za):TT ((List Q3)):=.gh 1 (.virtC 900070 2 0 2) (.sub (subAtt p0) λr167=>.gh 0 (.share (VwW.o 900070 Q2 r167) 1) (.done r167))
def s209(p0:za):Sp ((List Q3)):=.ofFnB 209 [] Q9 Tryz.func209 rfl (λ_=>rfl) (show FnB Pg GG [0,1,2,4,5,6,7] Tryz.f209 [.nilsl,.fn 210 [] [.ptr zo 0 0]] (Ext.of .normal (H8 [.nilsl,.fn 210 [] [.ptr zo 0 0]]) [(zo,⟨1,true,[[.str p0]]⟩)] [] (by rfl)) (g209 p0) (λ(r:(List Q3))=>Sl 2 Q2 r) (λ(r:(List Q3))=>Ext.of .normal [] [(zo,⟨1,true,[[.str p0]]⟩)] [] (by rfl)) by unfold FnB;kernel_rfl)
def g131(p0:za):TT ((List Q3)):=.opr 1002 (Rule.callRead (s209 p0) (.func 209) #[.const (.slice none 0 0),.tmp 3] #[119,209] 4 [] [.nilsl,.fn 210 [] [.ptr zo 0 0]] [] [(zo,zo,⟨1,true,[[.str p0]]⟩)] [] [(zo,zo)] (by kernel_rfl) (by kernel_rfl) (by kernel_rfl) (by kernel_rfl) (by kernel_rfl) (by kernel_rfl) (by kernel_rfl) (by kernel_rfl) (by kernel_rfl) (by kernel_rfl) (λ_=>by kernel_rfl) (λ_=>⟨by kernel_rfl,by kernel_rfl⟩)) λr168=>.done r168
def s131(p0:za):Sp ((List Q3)):=.ofFnB 131 [] Q9 Tryz.func131 rfl (λ_=>rfl) (show FnB Pg GG [0,2] Tryz.f131 [.fn 210 [] [.ptr zo 0 0]] (Ext.of .normal (H8 [.fn 210 [] [.ptr zo 0 0]]) [(zo,⟨1,true,[[.str p0]]⟩)] [] (by rfl)) (g131 p0) (λ(r:(List Q3))=>Sl 2 Q2 r) (λ(r:(List Q3))=>Ext.of .normal [] [(zo,⟨1,true,[[.str p0]]⟩)] [] (by rfl)) by unfold FnB;kernel_rfl)
def Rule.neqNil{P:Program}{G:zd}(t u:TypeId)(ox:Operand)(d:Nat){ms:Array (String×TypeId)}(ht:P.underlying t=some (.interface ms)):Rule P G Unit where
 op:=.binOp .neq t ox (.const .nilIface) u
 dst:=some d
 vals:=[(ox,.ifc .nilIface)]
 blks:=[]
 o:=some ()
 ws:=λ_=>[.t d (.bool false)]
 dt:=[]
 dat:=(by grind)
 ok:=λ_ _ x st hop hdst hvs _ hd=>by
  obtain⟨hdn,hu⟩:=hd d rfl
  have key:G1 P G x st (st.put (some d) (.bool false)):=by
   rw[<-hdst]
   refine D3 (by grind [H7]) λγ a w hs=>?_
   have hx:a.eval ox=.nilIface:=(hvs (ox,.ifc .nilIface) (by simp) γ a w hs).ifc_inv
   have hr:=Lib.run_neq_nil_nil w ht
   refine⟨.bool false,?_,.data (.bool _)⟩
   have he:a.eval (.const .nilIface)=.nilIface:=rfl
   simp_all [eqGuard,Unit,pure,execOp]
  exact key
def Rule.neqHeld{P:Program}{G:zd}(t u:TypeId)(ox:Operand)(d:Nat)(u0:TypeId)(v:Value)(ht:P.underlying t=some (.interface (P.methodsAt t))):Rule P G Unit where
 op:=.binOp .neq t ox (.const .nilIface) u
 dst:=some d
 vals:=[(ox,.ifc (.iface u0 v))]
 blks:=[]
 o:=some ()
 ws:=λ_=>[.t d (.bool true)]
 dt:=[]
 dat:=(by grind)
 ok:=λ_ _ x st hop hdst hvs _ hd=>by
  obtain⟨hdn,hu⟩:=hd d rfl
  have key:G1 P G x st (st.put (some d) (.bool true)):=by
   rw[<-hdst]
   refine D3 (by grind [H7]) λγ a w hs=>?_
   have hx:a.eval ox=.iface u0 v:=(hvs (ox,.ifc (.iface u0 v)) (by simp) γ a w hs).ifc_inv
   have hr:=run_neq_held_nil w t u0 v ht
   refine⟨.bool true,?_,.data (.bool _)⟩
   have he:a.eval (.const .nilIface)=.nilIface:=rfl
   simp_all [eqGuard,Unit,pure,execOp]
  exact key
section
variable (s:za)
def decCap:List (Nat×Blk):=[(1000000,⟨1,true,[[.str s]]⟩)]
def xCap(ts:List (Nat×V)):Ext:=Ext.of .normal ts (decCap s) [] (by rfl)
def gApQ:TT (List Q3⊕Unit):=.gh 1 (.virtC 900070 2 0 2) (.sub (subAttQ s) λ_=>.done (.inr ()))
theorem kApQ:FnP Tryz.prog GG [0,1,2,4,5,6,7] Tryz.f209 [.nilsl,.fn 210 [] [.ptr 1000000 0 0]] (xCap s (H8 [.nilsl,.fn 210 [] [.ptr 1000000 0 0]])) (gApQ s)
  (λ(r:List Q3)=>.sl false 2 (List.map Q2.c r)) (λ_=>xCap s []) (λ_=>malV) (λ(_:Unit)=>xCap s []):=by unfold FnP;kernel_rfl
theorem apQ_run{s:za}:∀{r},attP s=some (.inr r)->(gApQ s).run=some (.inr ()):=λ{r} h=>by
 obtain⟨r,e1,e2⟩:Ok (gApQ s) (λr=>r=.inr ()):=Ok.g (Ok.subR (attQ_iff.2 h) (Ok.d rfl))
 rw[e1,e2]
theorem apN_run{s:za}{r:List Q3}(h:attP s=some (.inl r)):(s209 s).o=some r:=by
 obtain⟨q,e1,e2⟩:Ok (g209 s) (λq=>q=r):=Ok.g (Ok.subR (attM_iff.2 h) (Ok.g (Ok.d rfl)))
 rw[show (s209 s).o=(g209 s).run from rfl,e1,e2]
theorem oprOk{ρ β:Type}{Q:ρ->Prop}{a:Nat}{R:Rule Tryz.prog GG β}{k:β->TT ρ}{r:β}(hr:R.o=some r)(h:Ok (k r) Q):Ok (.opr a R k) Q:=by
 obtain⟨x,e,hq⟩:=h
 exact⟨x,by grind [T.run],hq⟩
def sumU(x:Option ALL2):Option (List Q3⊕Unit):=x.map (Sum.map id λ_=>())
theorem sumU_inl{x:Option ALL2}{r}(h:sumU x=some (.inl r)):x=some (.inl r):=by
 unfold sumU at h
 cases x with
 | none=>simp at h
 | some q=>grind
theorem sumU_inr{x:Option ALL2}{r}(h:sumU x=some (.inr r)):∃q,x=some (.inr q):=by
 unfold sumU at h
 cases x with
 | none=>simp at h
 | some q=>grind
def sApP:SpecP Tryz.prog GG (List Q3) Unit:=
 ⟨209,[.nilsl,.fn 210 [] [.ptr 1000000 0 0]],decCap s,sumU (attP s),λr=>.sl false 2 (List.map Q2.c r),λ_=>decCap s,λ_=>malV,λ_=>decCap s,[],λ_ _ _ h=>by simp at h,λ_ _ _ h=>by simp at h,
  λr h=>(s209 s).ok r (apN_run (sumU_inl h)),λ_ h=>(fnp_ok Q9 Tryz.func209 rfl (kApQ s)).2 () (apQ_run (sumU_inr h).choose_spec)⟩
def gCoQ:TT (List Q3⊕Unit):=.callp 1002 (sApP s) [(1000000,1000000)] [] (λ_=>.fail) (λ_=>.done (.inr ()))
theorem kCoQ:FnP Tryz.prog GG [0,2] Tryz.f131 [.fn 210 [] [.ptr 1000000 0 0]] (xCap s (H8 [.fn 210 [] [.ptr 1000000 0 0]])) (gCoQ s)
  (λ(r:List Q3)=>.sl false 2 (List.map Q2.c r)) (λ_=>xCap s []) (λ_=>malV) (λ(_:Unit)=>xCap s []):=by unfold FnP;kernel_rfl
theorem coN_run{s:za}{r:List Q3}(h:attP s=some (.inl r)):(s131 s).o=some r:=by
 obtain⟨q,e1,e2⟩:Ok (g131 s) (λq=>q=r):=oprOk (r:=r) (apN_run h) (Ok.d rfl)
 rw[show (s131 s).o=(g131 s).run from rfl,e1,e2]
theorem coQ_run{s:za}{u}(h:sumU (attP s)=some (.inr u)):(gCoQ s).run=some (.inr ()):=by
 obtain⟨q,e1,e2⟩:Ok (gCoQ s) (λq=>q=.inr ()):=Ok.callp (x:=.inr u) h (λ_ h=>by cases h) λ_ _=>Ok.d rfl
 rw[e1,e2]
def sCoP:SpecP Tryz.prog GG (List Q3) Unit:=
 ⟨131,[.fn 210 [] [.ptr 1000000 0 0]],decCap s,sumU (attP s),λr=>.sl false 2 (List.map Q2.c r),λ_=>decCap s,λ_=>malV,λ_=>decCap s,[],λ_ _ _ h=>by simp at h,λ_ _ _ h=>by simp at h,
  λr h=>(s131 s).ok r (coN_run (sumU_inl h)),λ_ h=>(fnp_ok Q9 Tryz.func131 rfl (kCoQ s)).2 () (coQ_run h)⟩
end
def deOps:Array Oper:=rOps (cL (cR (cR cDe)))
def deO0:Oper:=(deOps[0]?).get (by kernel_rfl)
def deO1:Oper:=(deOps[1]?).get (by kernel_rfl)
theorem eDe:Tryz.f60.body=some ([cL cDe,cL (cR cDe)].foldr Code.seq (.seq (.region 5 #[deO0,deO1] false) (cR (cR (cR cDe))))):=by kernel_rfl
def c1De:Code:=Tryz.f127.body.getD .skip
def d1Ops:Array Oper:=rOps (cL c1De)
def d1O0:Oper:=(d1Ops[0]?).get (by kernel_rfl)
def d1O1:Oper:=(d1Ops[1]?).get (by kernel_rfl)
theorem e1De:Tryz.f127.body=some (.seq (.region 0 #[d1O0,d1O1] false) (cR c1De)):=by kernel_rfl
def g1De:TT Unit:=.opr 1002 (Rule.neqNil (ms:=#[]) 20 20 (.tmp 6) 7 (by kernel_rfl)) λ_=>.ff (.done ())
def zRow:List V:=[.int .i64 0,.int .i64 0,.str zb,.nilsl]
def N3(row:List V)(e:Int):List (Nat×Blk):=[(1000002,⟨4,true,[row]⟩),(1000003,⟨1,true,[[.int .i64 e]]⟩)]
def deCaps:List V:=[.ptr 1000002 0 0,.ptr 1000003 0 0]
def mRow(r:Int×Int×List Q3)(s:za):List V:=[.int .i64 r.1,.int .i64 r.2.1,.str (s.extract 8 20),.sl false 2 (List.map Q2.c r.2.2)]
theorem deAssert(w:World):∃v,(Instr.typeAssert malV 20 199 true).run Tryz.prog w=.ok (.tuple #[v,.bool true]) w/\∀γ bs u,Rep γ w bs u (.agg []) v:=⟨.agg #[],by kernel_rfl,λ_ _ _=>.agg [] [] rfl λ_ _ _ h=>by simp at h⟩
def g1DeP:TT Unit:=.opr 1002 (Rule.neqHeld 20 20 (.tmp 6) 7 199 (.agg #[]) (by kernel_rfl)) λ_=>.tt (.opr 2002 (Rule.asserted (.tmp 9) 20 199 10 malV true (.agg []) (.agg []) λw=>by
 simp_all [deAssert]) λ_=>.ff (.done ()))
def x1DeE:Ext:=Ext.of .normal [] (N3 zRow 5) [] (by rfl)
def x1DeZ:Ext:=Ext.of .normal [(0,.ptr 1000002 0 0),(1,.ptr 1000003 0 0),(2,.ifc malV),(5,.ifc malV)] (N3 zRow 0) [] (by rfl)
theorem k1DeZ:Y2 Tryz.prog GG [0,1,2,3,4,5,7,14] 17 (cR c1De) x1DeZ g1DeP (λ_=>x1DeE):=by unfold Y2;kernel_rfl
def x1DeM(r:Int×Int×List Q3)(s:za):Ext:=Ext.of .normal [(0,.ptr 1000002 0 0),(1,.ptr 1000003 0 0),(2,.ifc malV),(5,.ifc malV)] (N3 (mRow r s) 0) [] (by rfl)
theorem k1DeM(r:Int×Int×List Q3)(s:za):Y2 Tryz.prog GG [0,1,2,3,4,5,7,14] 17 (cR c1De) (x1DeM r s) g1DeP (λ_=>x1DeE):=by unfold Y2;kernel_rfl
def deB1(s:za)(row:List V)(e:Int):List (Nat×Blk):=(1000001,⟨1,true,[[.str s]]⟩) :: N3 row e
def deTs:List (Nat×V):=[(2,.ptr 1000002 0 0),(3,.ptr 1000003 0 0)]
def xDe1S(s:za):Ext:=Ext.of .normal ((1,.ptr 1000001 0 0) :: deTs) (deB1 s zRow 0) [] (by rfl)
def deClo:V:=.fn 127 [] deCaps
def xDe2P(s:za):Ext:=Ext.of .normal ((1,.ptr 1000001 0 0) :: deTs++[(17,deClo)]) (deB1 s zRow 0) [] (by rfl)
abbrev DeA:=Int×Int×List Q3
abbrev DeR:=DeA⊕(Unit⊕(Unit⊕DeA))
def gDeM(s:za)(t:Int):TT DeR:=
 .chk 12019 ((decide (0<=(20:Int))&&decide ((20:Int)<=(s.size:Int)))&&true) (.chk 12021 (decide (0<=(20:Int))&&decide ((20:Int)<=(s.size:Int))) (.call 12022 (s132 (s.extract 20 s.size)) [] [(1,500016)] λ_=>
 .callp 12023 (sCoP (s.extract 20 s.size)) [(1000000,500016)] [] (λr=>
  .call 13002 (s118 (Z8.mk (bOr .i64 (Y1 .i64 (Z3 .i64 t 4) 1) (Y1 .i64 (Z3 .i64 t 7) 2)) (bOr .i64 (bOr .i64 (Y1 .i64 t 15) (Y1 .i64 (Z3 .i64 t 1) 112)) (Y1 .i64 (Z3 .i64 t 2) 3968)) (s.extract 8 20) r)) [] [] λc=>
  .callp 13004 (sMustP (c==0)) [] []
   (λ_=>.done (.inl ((bOr .i64 (Y1 .i64 (Z3 .i64 t 4) 1) (Y1 .i64 (Z3 .i64 t 7) 2)),(bOr .i64 (bOr .i64 (Y1 .i64 t 15) (Y1 .i64 (Z3 .i64 t 1) 112)) (Y1 .i64 (Z3 .i64 t 2) 3968)),r)))
   (λ_=>.done (.inr (.inr (.inr ((bOr .i64 (Y1 .i64 (Z3 .i64 t 4) 1) (Y1 .i64 (Z3 .i64 t 7) 2)),(bOr .i64 (bOr .i64 (Y1 .i64 t 15) (Y1 .i64 (Z3 .i64 t 1) 112)) (Y1 .i64 (Z3 .i64 t 2) 3968)),r))))))
  (λ_=>.done (.inr (.inr (.inl ()))))))
def gDe2P(s:za):TT DeR:=
 .view 7002 (s128 2 4 s) [] λn=>
 .br 0 (decide ((s.size:Int) < (Q7 ((20:Int)+n)))) (.done (.inr (.inl ())))
 (.view 10002 (s128 0 2 s) [] λt=>
  .br 11004 (decide (t < 16384))
   (.view 11005 (s128 4 8 s) [] λm=>
    .br 11009 (m==554869826)
    (.callp 11015 (sMustP ((s.size:Int)==(Q7 ((20:Int)+n)))) [] [] (λ_=>gDeM s t) λ_=>.done (.inr (.inr (.inl ()))))
    (.callp 11015 (sMustP false) [] [] (λ_=>.fail) λ_=>.done (.inr (.inr (.inl ())))))
   (.callp 11015 (sMustP false) [] [] (λ_=>.fail) λ_=>.done (.inr (.inr (.inl ())))))
def eDeP(s:za):DeR->Ext:=
 Sum.elim (λr=>Ext.of .ret deTs (N3 (mRow r s) 0) [] (by rfl)) (Sum.elim (λ_=>Ext.of .ret deTs (N3 zRow 7) [] (by rfl)) (Sum.elim (λ_=>Ext.of thrE deTs (N3 zRow 0) [] (by rfl)) λr=>Ext.of thrE deTs (N3 (mRow r s) 0) [] (by rfl)))
theorem kDe2P(s:za):Y2 Tryz.prog GG [1,2,3,4,5,6,17,25] 73 (cR (cR (cR cDe))) (xDe2P s) (gDe2P s) (eDeP s):=by unfold Y2;kernel_rfl
def gDeE(s:za):TT (Z8×Int):=.br 0 (decide ((1200:Int) < (s.size:Int))) (.done (⟨0,0,zb,[]⟩,3)) (.br 0 (decide ((s.size:Int) < 20)) (.done (⟨0,0,zb,[]⟩,7)) .fail)
theorem kDeE(s:za):FnD Tryz.prog GG [0,1,2,3,7,12] Tryz.f60 [.str s] (gDeE s) (λr=>.tup [.agg [.int .i64 r.1.fG,.int .i64 r.1.fH,.str r.1.fj,.sl false 2 (List.map Q2.c r.1.fo)],.int .i64 r.2]):=by unfold FnD;kernel_rfl
theorem CallC.resc{P:Program}{G:zd}{f:FuncId}{args:List V}{ins outs:ze}{res:V}(h:CallC P G f args ins res outs)(e:V):CallC P G f args ins (A3 8 e res) outs:=
 λγ w vs a b c d=>(h γ w vs a b c d).mono (by grind [coeV_rep])
def x1DeN(row:List V)(e:Int)(h:((N3 row e).all λp=>!(([]:List BT).any λx=>x.id==p.1))=true):Ext:=Ext.of .normal [(0,.ptr 1000002 0 0),(1,.ptr 1000003 0 0),(2,.ifc .nilIface),(5,.ifc .nilIface)] (N3 row e) [] h
theorem k1DeN7:Y2 Tryz.prog GG [0,1,2,5,7] 17 (cR c1De) (x1DeN zRow 7 (by rfl)) g1De (λ_=>x1DeN zRow 7 (by rfl)):=by unfold Y2;kernel_rfl
theorem k1DeNM(r:DeA)(s:za):Y2 Tryz.prog GG [0,1,2,5,7] 17 (cR c1De) (x1DeN (mRow r s) 0 (by rfl)) g1De (λ_=>x1DeN (mRow r s) 0 (by rfl)):=by unfold Y2;kernel_rfl
theorem T6(row:List V)(e:Int):∀b k,ofL (N3 row e) b=some k->I9 b=true:=λb k h=>by
 obtain⟨p,h1,rfl,_⟩:=find_b h
 simp only[N3,zT,wg,or_false] at h1
 rcases h1 with rfl|rfl
 ·grind [I9]
 grind [I9]
theorem callDN{u u':FrameMode}{rv:Value}{row row':List V}{e e':Int}{x x':Ext}{kp:List Nat}{g:TT Unit}(hi:isIfc rv=true)(hr:Recovers u rv u')(k:Y2 Tryz.prog GG kp 17 (cR c1De) x g (λ_=>x'))(hg:g.run=some ())(hok:x'.ok=true)(hex:x'.ex=.normal)
  (h0:Gst GG (((entry 17 deCaps (ofL (N3 row e))).put (some 5) (.ifc rv)).put (some 2) (.ifc rv)) (x.D 17).st) (hb:x'.bs=N3 row' e') :
  CallD Tryz.prog GG 127 deCaps (ofL (N3 row e)) u u' (ofL (N3 row' e')):=by
 refine callD_body (n:=17) (t1:=5) (t2:=2) (rv:=rv) Tryz.func127 e1De (by kernel_rfl) (by kernel_rfl) (by kernel_rfl) (by kernel_rfl) (by kernel_rfl) (by kernel_rfl) (by kernel_rfl) (by decide) (by decide) hi hr (by kernel_rfl) ?_
 have h:=k.tv Q9 (r:=()) hg hok
 exact(TV.ghost h0 h).mono λe s hq=>⟨.inl (hq.1.trans hex),_,hq.2,λb k hk=>by rw[<-hb] at hk;exact hk⟩
theorem dRet7:CallD Tryz.prog GG 127 deCaps (ofL (N3 zRow 7)) .returning .returning (ofL (N3 zRow 7)):=
 callDN rfl (.inl ⟨rfl,rfl,rfl⟩) k1DeN7 rfl (by rfl) rfl (E9 (x1DeN zRow 7 (by rfl)) (by rfl) rfl ⟨by rfl,by rfl⟩) rfl
theorem dRetM(r:DeA)(s:za):CallD Tryz.prog GG 127 deCaps (ofL (N3 (mRow r s) 0)) .returning .returning (ofL (N3 (mRow r s) 0)):=
 callDN rfl (.inl ⟨rfl,rfl,rfl⟩) (k1DeNM r s) rfl (by rfl) rfl (E9 (x1DeN (mRow r s) 0 (by rfl)) (by rfl) rfl ⟨by rfl,by rfl⟩) rfl
def deU:FrameMode:=.panicking [{ v:=malV,recovered:=true }]
theorem dPanZ:CallD Tryz.prog GG 127 deCaps (ofL (N3 zRow 0)) (.panicking (D5 malV)) deU (ofL (N3 zRow 5)):=
 callDN rfl (.inr ⟨malV,[],rfl,rfl,rfl⟩) k1DeZ rfl (by rfl) rfl (E9 x1DeZ (by rfl) rfl ⟨by rfl,by rfl⟩) rfl
theorem dPanM(r:DeA)(s:za):CallD Tryz.prog GG 127 deCaps (ofL (N3 (mRow r s) 0)) (.panicking (D5 malV)) deU (ofL (N3 zRow 5)):=
 callDN rfl (.inr ⟨malV,[],rfl,rfl,rfl⟩) (k1DeM r s) rfl (by rfl) rfl (E9 (x1DeM r s) (by rfl) rfl ⟨by rfl,by rfl⟩) rfl
def z0:Z8:=⟨0,0,zb,[]⟩
def decR(s:za):DeR->Z8×Int:=Sum.elim (λr=>(⟨r.1,r.2.1,s.extract 8 20,r.2.2⟩,0)) (Sum.elim (λ_=>(z0,7)) λ_=>(z0,5))
def decM(s:za):Option (Z8×Int):=match (gDeE s).run with
 | some r=>some r
 | none=>(gDe1 s).run.bind λ_=>(gDe2P s).run.map (decR s)
def decV(r:Z8×Int):V:=.tup [.agg [.int .i64 r.1.fG,.int .i64 r.1.fH,.str r.1.fj,.sl false 2 (List.map Q2.c r.1.fo)],.int .i64 r.2]
theorem flatDe{γ:Gh}{w:World}{bs bs':ze}{u u':zf}{a b e:Int}{s:za}{c:V}{v:Value}(hc:c=.nilsl\/∃l,c=.sl false 2 (List.map Q2.c l))(h:Rep γ w bs u (.tup [.agg [.int .i64 a,.int .i64 b,.str s,c],.int .i64 e]) v) :
  Rep γ.unshift w bs' u' (.tup [.agg [.int .i64 a,.int .i64 b,.str s,c],.int .i64 e]) v:=by
 rcases hc with rfl|⟨l,rfl⟩
 ·exact Rep.dataMono (γ:=γ) (γ':=γ.unshift) (λB o v h1 h2=>⟨h1,h2⟩) h (by rfl)
 ·exact Rep.dataMono (γ:=γ) (γ':=γ.unshift) (λB o v h1 h2=>⟨h1,h2⟩) h (by rfl)
theorem de_us{x:Ext}(h:x.us=[1000002,1000003]):(x.D 73).st.u=uTop:=funext λb=>by
 show (x.us.contains b || uTop b)=uTop b
 rw[h]
 by_cases h1:b=1000002
 ·subst h1;rfl
 ·by_cases h2:b=1000003
  ·subst h2;rfl
  grind
theorem decMain(s:za){q:DeR}{ex:Exit}{u u':FrameMode}{insD outsD:List (Nat×Blk)}{a b e:Int}{i:za}{c:V}(h1:(gDe1 s).run=some ())(h2:(gDe2P s).run=some q)(hok:(eDeP s q).ok=true)(hex:(eDeP s q).ex=ex)(hl:Go.EV.Left u ex)(hbs:((eDeP s q).D 73).st.b=ofL insD)(hus:(eDeP s q).us=[1000002,1000003])
  (hp:∀b k,ofL insD b=some k->I9 b=true) (hpo:∀b k,ofL outsD b=some k->I9 b=true) (hD:CallD Tryz.prog GG 127 deCaps (ofL insD) u u' (ofL outsD)) (hu:settle u'=.returning) (hc:c=.nilsl\/∃l,c=.sl false 2 (List.map Q2.c l))
  (hres:G9 Tryz.prog ⟨73,((eDeP s q).D 73).st.t,ofL outsD,λ_=>true⟩ Tryz.f60.results.toList=some (.tup [.agg [.int .i64 a,.int .i64 b,.str i,c],.int .i64 e])) :
  CallC Tryz.prog GG 60 [.str s] (ofL []) (.tup [.agg [.int .i64 a,.int .i64 b,.str i,c],.int .i64 e]) (ofL []):=by
 have e0:entry 73 [.str s] (ofL [])=((xsDe0 s).D 73).st:=(entry_ext (x:=xsDe0 s) (by rfl) (by rfl) 73).symm
 have t0:=(kDe0 s).tv Q9 (r:=()) rfl (by rfl)
 have t1:=(kDe1 s).tv Q9 h1 (by rfl)
 have t2:=(kDe2P s).tv Q9 h2 hok
 have hnoB:(ofL []:ze)=noB:=rfl
 rw[hnoB] at e0 ⊢
 have hsh:Gst GG ((xeDe1 s ()).D 73).st.shift ((xDe1S s).D 73).st:=by
  have eT:((xeDe1 s ()).ts.map λp=>(p.1,W5 sh p.2))=(xDe1S s).ts:=by kernel_rfl
  have eB:((xeDe1 s ()).bs.map λp=>(sh p.1,p.2.ren sh))=(xDe1S s).bs:=by kernel_rfl
  rw[ext_shift,eT,eB]
  exact E9 (xDe1S s) (by rfl) rfl ⟨by rfl,by rfl⟩
 have st5:StepV Tryz.prog GG #[deO0,deO1] 0 ((xDe1S s).D 73).st (((xDe1S s).D 73).st.put (some 17) deClo):=stepG_spec (by rfl)
 have g0:D7 #[deO0,deO1] ((xDe1S s).D 73).st deO0=some true:=by rfl
 have h0:G1 Tryz.prog GG deO0 ((xDe1S s).D 73).st (((xDe1S s).D 73).st.put (some 17) deClo):=by
  unfold StepV at st5
  simp only[show (#[deO0,deO1]:Array Oper)[0]?=some deO0 from rfl] at st5
  rcases st5 with⟨_,h⟩|⟨h,_⟩
  ·exact h
  ·rw[g0] at h;simp at h
 have gB:Gst GG (((xDe1S s).D 73).st.put (some 17) deClo) ((xDe2P s).D 73).st:=E9 (xDe2P s) (by rfl) rfl ⟨by rfl,by rfl⟩
 refine callC_defer (As:=[cL cDe,cL (cR cDe)]) (rest:=cR (cR (cR cDe))) (rid:=5) (t:=17) (n:=73) (o0:=deO0) (o1:=deO1) (caps:=deCaps) (insD:=ofL insD) (outsD:=ofL outsD) (S0:=((xeDe1 s ()).D 73).st) (S1:=((xDe1S s).D 73).st) (S2:=((eDeP s q).D 73).st) (ex:=ex) (u:=u) (u':=u')
  Tryz.func60 eDe (by kernel_rfl) ?_ hsh h0 g0 (by kernel_rfl) (by kernel_rfl) (by rfl) ((TV.ghost gB t2).mono (by grind)) hl (λc hc=>?_) (show 17 < 73 by decide) ⟨hbs,de_us hus⟩ ⟨hp,hpo⟩ Tryz.func127 (by kernel_rfl) (by kernel_rfl) hD hu hres λγ w v h=>flatDe hc h
 ·rw[e0]
  show TV _ _ (cL cDe) _ _
  refine t0.mono λe st hq=>?_
  obtain⟨rfl,g⟩:=hq
  show TV _ _ (cL (cR cDe)) _ _
  exact TV.ghost g (t1.mono λe st hq=>⟨hq.1,hq.2⟩)
 ·simp only[deCaps,zT,wg,or_false] at hc
  rcases hc with rfl|rfl
  ·exact⟨1000002,⟨4,true,[zRow]⟩,rfl,by decide,rfl⟩
  ·exact⟨1000003,⟨1,true,[[.int .i64 0]]⟩,rfl,by decide,rfl⟩
theorem dec_ok(s:za){r:Z8×Int}(h:decM s=some r):CallC Tryz.prog GG 60 [.str s] (ofL []) (decV r) (ofL []):=by
 unfold decM at h
 split at h
 ·rename_i r' h1
  obtain rfl:=wq h
  exact fn_ok Q9 Tryz.func60 rfl (kDeE s) _ h1
 ·obtain⟨u1,h1,h⟩:=zL.1 h
  obtain⟨q,h2,rfl⟩:=zw.1 h
  rcases q with r|_|_|r
  ·exact decMain s (insD:=N3 (mRow r s) 0) (outsD:=N3 (mRow r s) 0) h1 h2 (by rfl) rfl (.inl ⟨rfl,rfl⟩) rfl rfl (T6 _ _) (T6 _ _) (dRetM r s) rfl (.inr ⟨r.2.2,rfl⟩) (by kernel_rfl)
  ·exact CallC.resc (decMain s (insD:=N3 zRow 7) (outsD:=N3 zRow 7) h1 h2 (by rfl) rfl (.inl ⟨rfl,rfl⟩) rfl rfl (T6 _ _) (T6 _ _) dRet7 rfl (.inl rfl) (by kernel_rfl)) (decV (z0,7))
  ·exact CallC.resc (decMain s (insD:=N3 zRow 0) (outsD:=N3 zRow 5) h1 h2 (by rfl) rfl (.inr (.inr ⟨_,rfl,rfl⟩)) rfl rfl (T6 _ _) (T6 _ _) dPanZ rfl (.inl rfl) (by kernel_rfl)) (decV (z0,5))
  ·exact CallC.resc (decMain s (insD:=N3 (mRow r s) 0) (outsD:=N3 zRow 5) h1 h2 (by rfl) rfl (.inr (.inr ⟨_,rfl,rfl⟩)) rfl rfl (T6 _ _) (T6 _ _) (dPanM r s) rfl (.inl rfl) (by kernel_rfl)) (decV (z0,5))
def decSpec(s:za):EV.Spec Tryz.prog GG (Z8×Int):=
 ⟨60,[.str s],[],decM s,decV,λ_=>[],[],λ_ _ h=>by simp at h,λr h=>dec_ok s h⟩
structure Z4 where
 fc:za
 fe:Int
structure SHost where
 fs:za
structure SProbe where
 fm:Int
 fj:Int
 fA:Int
 fq:Bool
 fw:Int
 fE:Bool
 ft:Z4
structure Q6 where
 fm:Int
 gi:Int
 fA:Int
 gf:za
 fJ:Z4
 fZ:Z4
structure Z2 where
 fI:Int
 fL:Int
 fA:Int
 gq:Int
structure H6 where
 fq:Bool
 fB:(List Q6)
 fC:(List Q6)
 fD:(List Z2)
structure N4 where
 fh:H6
structure SLike where
 fM:Z4
 fN:Z4
 gg:Int
structure SEnt158 where
 fk:SLike
 fv:Bool
def Q0:Ty Q6:=⟨λx=>[.i x.fm,.i x.gi,.i x.fA,.str x.gf,.str x.fJ.fc,.i x.fJ.fe,.str x.fZ.fc,.i x.fZ.fe],λx=>[.i x.fm,.i x.gi,.i x.fA,.str x.gf,.str x.fJ.fc,.i x.fJ.fe,.str x.fZ.fc,.i x.fZ.fe],λ_=>rfl,λ_=>rfl,λ_ _=>rfl,λ_=>rfl⟩
def Q4:Ty Z2:=⟨λx=>[.i x.fI,.i x.fL,.i x.fA,.i x.gq],λx=>[.i x.fI,.i x.fL,.i x.fA,.i x.gq],λ_=>rfl,λ_=>rfl,λ_ _=>rfl,λ_=>rfl⟩
def tySEnt158:Ty SEnt158:=⟨λx=>[.str x.fk.fM.fc,.i x.fk.fM.fe,.str x.fk.fN.fc,.i x.fk.fN.fe,.i x.fk.gg,.bool x.fv],λx=>[.str x.fk.fM.fc,.i x.fk.fM.fe,.str x.fk.fN.fc,.i x.fk.fN.fe,.i x.fk.gg,.bool x.fv],λ_=>rfl,λ_=>rfl,λ_ _=>rfl,λ_=>rfl⟩
def s126(p0:Z8)(p1:List Q3)(p2:Int):Sp (za):=wrSpec p0.fG p0.fH p0.fj p0.fo p1 p2
def s195(p0:Q3)(p1:Int):Sp (Bool):=.ofFn 195 Q9 Tryz.func195 (show FnD Pg GG [0,1,2,3] Tryz.f195 [.agg (Q2.c p0),.snap [.i p1]] (.done (p0.fm==p1):TT (Bool)) (λr=>.bool r) by unfold FnD;kernel_rfl)
def g133(p0:List Q3)(p1:Int):TT (Int):=.bind2 1 (.lp (λ(l176:Int)=>Ext.l .normal [(0,Sl 2 Q2 p0),(1,.fn 195 [] [.snap [.i p1]]),(4,.i 0),(7,.i (Y6 Q2 p0)),(8,.i l176)] []) (λl176=>.br 0 (decide (l176 < (Y6 Q2 p0))) (.row 4004 Q2 p0 l176.toNat (decide (0<=l176)) λx177=>.call 4006 (s195 x177 p1) [] [] λr178=>.br 0 r178 (.done (.inr (.inl l176))) (.done (.inl (Q7 (l176+1))))) (.done (.inr (.inr ())))) 0) (λ(e179:Int)=>Ext.l .ret [(4,.i e179)] []) (λ(e180:Unit)=>Ext.l (.exit 0) [(4,.i 0)] []) (λe179=>.done e179) (λe180=>.done (-1))
def s133(p0:List Q3)(p1:Int):Sp (Int):=.ofFn 133 Q9 Tryz.func133 (show FnD Pg GG [0,1,4,5,7,8,9,16] Tryz.f133 [Sl 2 Q2 p0,.fn 195 [] [.snap [.i p1]]] (g133 p0 p1) (λr=>.int .i64 r) by unfold FnD;kernel_rfl)
def g194(p0:List Q3)(p1:Int):TT (Bool):=.call 1003 (s133 p0 p1) [] [] λr181=>.done (decide ((0:Int)<=r181))
def s194(p0:List Q3)(p1:Int):Sp (Bool):=.ofFn 194 Q9 Tryz.func194 (show FnD Pg GG [0,1,4] Tryz.f194 [Sl 2 Q2 p0,.fn 195 [] [.snap [.i p1]]] (g194 p0 p1) (λr=>.bool r) by unfold FnD;kernel_rfl)
def g119(p0:Z8)(p1:Int):TT (Bool):=.view 1004 (s194 p0.fo p1) [] λr182=>.done r182
def s119(p0:Z8)(p1:Int):Sp (Bool):=.ofFn 119 Q9 Tryz.func119 (show FnD Pg GG [0,1,2,3,4] Tryz.f119 [.agg [.i p0.fG,.i p0.fH,.str p0.fj,Sl 2 Q2 p0.fo],.i p1] (g119 p0 p1) (λr=>.bool r) by unfold FnD;kernel_rfl)
def g121(p0:Z8)(p1:List Q3)(p2:za):TT (za):=.call 1004 (s126 p0 p1 36) [] [] λr176=>.call 1005 (s197 p2 r176) [] [] λr177=>.done r177.1
def s121(p0:Z8)(p1:List Q3)(p2:za):Sp (za):=.ofFn 121 Q9 Tryz.func121 (show FnD Pg GG [0,1,2,3,6,7] Tryz.f121 [.agg [.i p0.fG,.i p0.fH,.str p0.fj,Sl 2 Q2 p0.fo],Sl 2 Q2 p1,.str p2] (g121 p0 p1 p2) (λr=>.str r) by unfold FnD;kernel_rfl)
def g196(p0:List Q3):TT Unit:=.app 3003 Q2 [] p0 24 true (by intros;rfl) (.done ())
theorem k196y:Y2 Tryz.prog GG [2] 8 (O9 Tryz.f196.body) (Ext.l .normal [(2,.nilsl)] []) (.done ():TT Unit) (λ_=>Ext.l .ret [(2,.nilsl)] []):=by unfold Y2;kernel_rfl
theorem k196r(p0:List Q3):Y2 Tryz.prog GG [0,2,5,6,7] 8 (X9 Tryz.f196.body) (Ext.l .normal [(0,.sl false 2 (List.map Q2.c p0)),(2,.nilsl)] []) (g196 p0) (λ_=>Ext.of .ret [(2,.ref 7 0 ([]++p0).length)] [] [BT.of 7 Q2 2 ([]++p0)] (by rfl)):=by unfold Y2;kernel_rfl
theorem k196(p0:(List Q3)){r:Unit}(h:(g196 p0).run=some r):CallC Tryz.prog GG 196 [.sl false 2 (List.map Q2.c p0)] (ofL []) (.ref 7 0 p0.length) (ofL [(7,⟨2,true,List.map Q2.c p0⟩)]):=
 clone_ok (ty:=Q2) (ops0:=cloneOps0 Tryz.f196.body) (ops1:=cloneOps1 Tryz.f196.body) (yes:=O9 Tryz.f196.body) (rest:=X9 Tryz.f196.body) (t:=119) Q9 (by decide) Tryz.func196 (by kernel_rfl) (by kernel_rfl) (by kernel_rfl) (by kernel_rfl) (by kernel_rfl) (by kernel_rfl) (by kernel_rfl) (by kernel_rfl) (by kernel_rfl) k196y (k196r p0) (by rfl) h
def s196(p0:List Q3):Sp Unit:=⟨196,[Sl 2 Q2 p0],[],(g196 p0).run,λ_=>Rf 7 p0,λ_=>[(7,⟨2,true,List.map Q2.c p0⟩)],[7],λ_ p hp _=>by rw[we.1 hp];exact Q2.data _,λ_ h=>k196 p0 h⟩
def g120(p0:Z8)(p1:Q3):TT (Z8×Int):=.call 1003 (s196 p0.fo) [] [(7,500017)] λr179=>.app 1006 Q2 p0.fo [p1] 24 false (by intro h;cases h) (.view 2002 (s118 (Z8.mk p0.fG p0.fH p0.fj (p0.fo++[p1]))) [(VwW.o 11 Q2 (p0.fo++[p1]))] λr180=>.br 0 (r180 != 0) (.done ((Z8.mk 0 0 zb []),3)) (.gh 0 (.share (VwW.o 11 Q2 (p0.fo++[p1])) 1) (.done ((Z8.mk p0.fG p0.fH p0.fj (p0.fo++[p1])),0))))
def s120(p0:Z8)(p1:Q3):Sp (Z8×Int):=.ofFn 120 Q9 Tryz.func120 (show FnD Pg GG [0,1,2,3,4,5,15] Tryz.f120 [.agg [.i p0.fG,.i p0.fH,.str p0.fj,Sl 2 Q2 p0.fo],.agg (Q2.c p1)] (g120 p0 p1) (λr=>.tup [.agg [.i r.1.fG,.i r.1.fH,.str r.1.fj,Sl 2 Q2 r.1.fo],.i r.2]) by unfold FnD;kernel_rfl)
def g57(p0:Z8)(p1:za):TT (Z8×Int):=.call 1002 (s118 p0) [] [] λr172=>.br 0 (r172 != 0) (.done ((Z8.mk 0 0 zb []),r172)) (.br 0 (decide ((4096:Int) < (p1.size:Int))) (.done ((Z8.mk 0 0 zb []),3)) (.cnd 6 [19] (.call 6002 (s119 p0 8) [] [] λr173=>.br 6004 r173 (.done true) (.call 6005 (s119 p0 32808) [] [] λr174=>.done r174)) zg λc175=>.br 0 c175 (.done ((Z8.mk 0 0 zb []),2)) (.call 8006 (s121 p0 p0.fo p1) [] [] λr178=>.call 8008 (s120 p0 (Q3.mk 8 r178)) [] [] λr181=>.done (r181.1,r181.2))))
def s57(p0:Z8)(p1:za):Sp (Z8×Int):=.ofFn 57 Q9 Tryz.func57 (show FnD Pg GG [0,1,2,4,5,6,9,14,19] Tryz.f57 [.agg [.i p0.fG,.i p0.fH,.str p0.fj,Sl 2 Q2 p0.fo],.str p1] (g57 p0 p1) (λr=>.tup [.agg [.i r.1.fG,.i r.1.fH,.str r.1.fj,Sl 2 Q2 r.1.fo],.i r.2]) by unfold FnD;kernel_rfl)
def g59(p0:Z8):TT (za×Int):=.call 1002 (s118 p0) [] [] λr182=>.br 0 (r182 != 0) (.done (zb,r182)) (.call 4004 (s126 p0 p0.fo 0) [] [] λr183=>.done (r183,0))
def s59(p0:Z8):Sp (za×Int):=.ofFn 59 Q9 Tryz.func59 (show FnD Pg GG [0,1,2,3,4,8] Tryz.f59 [.agg [.i p0.fG,.i p0.fH,.str p0.fj,Sl 2 Q2 p0.fo]] (g59 p0) (λr=>.tup [.str r.1,.i r.2]) by unfold FnD;kernel_rfl)
def s134(p0:Q3):Sp (Bool):=.ofFn 134 Q9 Tryz.func134 (show FnD Pg GG [0,1,2] Tryz.f134 [.agg (Q2.c p0)] (.done (p0.fm==8):TT (Bool)) (λr=>.bool r) by unfold FnD;kernel_rfl)
def g133_1(p0:List Q3):TT (Int):=.bind2 1 (.lp (λ(l189:Int)=>Ext.l .normal [(0,Sl 2 Q2 p0),(1,.fn 134 [] []),(4,.i 0),(7,.i (Y6 Q2 p0)),(8,.i l189)] []) (λl189=>.br 0 (decide (l189 < (Y6 Q2 p0))) (.row 4004 Q2 p0 l189.toNat (decide (0<=l189)) λx190=>.call 4006 (s134 x190) [] [] λr191=>.br 0 r191 (.done (.inr (.inl l189))) (.done (.inl (Q7 (l189+1))))) (.done (.inr (.inr ())))) 0) (λ(e192:Int)=>Ext.l .ret [(4,.i e192)] []) (λ(e193:Unit)=>Ext.l (.exit 0) [(4,.i 0)] []) (λe192=>.done e192) (λe193=>.done (-1))
def s133_1(p0:List Q3):Sp (Int):=.ofFn 133 Q9 Tryz.func133 (show FnD Pg GG [0,1,4,5,7,8,9,16] Tryz.f133 [Sl 2 Q2 p0,.fn 134 [] []] (g133_1 p0) (λr=>.int .i64 r) by unfold FnD;kernel_rfl)
def g61(p0:Z8)(p1:za):TT (Int):=.call 1002 (s118 p0) [] [] λr184=>.br 0 (r184 != 0) (.done r184) (.br 0 (decide ((4096:Int) < (p1.size:Int))) (.done 3) (.call 6002 (s119 p0 8) [] [] λr185=>.br 0 (!r185) (.done 4) (.call 8003 (s133_1 p0.fo) [] [] λr194=>.row 9004 Q2 p0.fo r194.toNat (decide (0<=r194)) λx195=>.chk 9011 (decide (0<=r194)&&decide (r194<=((mlenn Q2 p0.fo):Int))) (.re 9011 (ReW.cutHi 34 2 Q2 p0.fo r194.toNat) (.call 9013 (s121 p0 (p0.fo.take r194.toNat) p1) [] [] λr196=>.br 0 (!decide (x195.fp=r196)) (.done 9) (.done 0))))))
def s61(p0:Z8)(p1:za):Sp (Int):=.ofFn 61 Q9 Tryz.func61 (show FnD Pg GG [0,1,2,4,5,6,9,13,17,37] Tryz.f61 [.agg [.i p0.fG,.i p0.fH,.str p0.fj,Sl 2 Q2 p0.fo],.str p1] (g61 p0 p1) (λr=>.int .i64 r) by unfold FnD;kernel_rfl)
def g135(p0:za):TT (Int):=.opr 2002 (Rule.octets (ty:=U4) (s:=9) (t:=73) (e:=5) (.tmp 6) 7 p0 (by kernel_rfl) (by kernel_rfl) (by kernel_rfl) (by kernel_rfl) (λ_=>rfl)) λ_=>.bind 1 (.lp (λ(l199:Int×Int)=>Ext.of .normal [(2,.i 0),(3,.i l199.1),(7,.ref 7 0 ((Z1 p0).length)),(8,.i ((Z1 p0).length:Int)),(9,.i l199.2)] [] [BT.of 7 U4 1 (Z1 p0) true] (by rfl)) (λl199=>.br 0 (decide (l199.2 < ((Z1 p0).length:Int))) (.chk 4001 (decide (0<=l199.2)&&decide (l199.2 < ((Z1 p0).length:Int))) (.row 4002 U4 (Z1 p0) (0+l199.2.toNat) true λx200=>.done (.inl ((bOr .i64 (N6 .i64 l199.1 8) (Q7 x200)),(Q7 (l199.2+1)))))) (.done (.inr l199.1))) (0,0)) (λ(e201:Int)=>Ext.l (.exit 0) [(2,.i 0),(3,.i e201)] []) (λe201=>.done e201)
def s135(p0:za):Sp (Int):=.ofFn 135 Q9 Tryz.func135 (show FnD Pg GG [0,2,3,5,7,8,9,10] Tryz.f135 [.str p0] (g135 p0) (λr=>.int .i64 r) by unfold FnD;kernel_rfl)
def g201(p0:za):TT (za):=.call 1001 (s198 4 554869826) [] [] λr210=>.chk 2003 (decide (r210.1.size+p0.size<=9223372036854775807)) (.done (r210.1++p0))
def s201(p0:za):Sp (za):=.ofFn 201 Q9 Tryz.func201 (show FnD Pg GG [0,2,3] Tryz.f201 [.str p0] (g201 p0) (λr=>.str r) by unfold FnD;kernel_rfl)
def g200(p0 p1:za):TT (za):=.opr 1002 (Rule.octets (ty:=U4) (s:=9) (t:=73) (e:=5) (.tmp 7) 8 p0 (by kernel_rfl) (by kernel_rfl) (by kernel_rfl) (by kernel_rfl) (λ_=>rfl)) λ_=>.bind 1 (.lp (λ(l215:(List Int)×Int)=>Ext.of .normal [(1,.str p1),(4,.str zb),(5,Rf 8 l215.1),(10,.i ((Z1 p0).length:Int)),(11,.i l215.2)] [] [Bt 8 U4 1 l215.1] (by rfl)) (λl215=>.br 0 (decide (l215.2 < ((Z1 p0).length:Int))) (.chk 5003 (bD l215.2 l215.1.length) (.row 5004 U4 l215.1 (0+l215.2.toNat) true λx216=>.chk 5007 (decide (0<=l215.2/\l215.2 < (p1.size:Int))) (.chk 5009 (bD l215.2 l215.1.length) (.row 5010 U4 l215.1 (0+l215.2.toNat) true λx217=>.re 5010 (ReW.put 8 1 U4 l215.1 (0+l215.2.toNat) (K9 .u8 x216 (bAt p1 l215.2))) (.gh 8 (.len 8 ((l215.1.set (0+l215.2.toNat) (K9 .u8 x216 (bAt p1 l215.2))).length) [l215.1.length] (by simp)) (.done (.inl ((l215.1.set (0+l215.2.toNat) (K9 .u8 x216 (bAt p1 l215.2))),(Q7 (l215.2+1)))))))))) (.done (.inr l215.1))) ((Z1 p0),0)) (λ(e218:(List Int))=>Ext.of (.exit 0) [(4,.str zb),(5,Rf 8 e218)] [] [Bt 8 U4 1 e218] (by rfl)) (λe218=>.opr 7002 (Rule.textOf (ty:=U4) (s:=73) (t:=9) (e:=5) (.tmp 24) 25 8 e218 e218.length (by kernel_rfl) (by kernel_rfl) (by kernel_rfl) (by simp) (λ_=>rfl)) λ_=>.done (strOfNums e218))
def s200(p0 p1:za):Sp (za):=.ofFn 200 Q9 Tryz.func200 (show FnD Pg GG [0,1,4,5,6,10,11,12] Tryz.f200 [.str p0,.str p1] (g200 p0 p1) (λr=>.str r) by unfold FnD;kernel_rfl)
def g179(p0:za):TT (SHost×Int):=.cnd 1 [11] (.br 1005 ((p0.size:Int) != 4) (.done ((p0.size:Int) != 16)) (.done false)) zg λc223=>.br 0 c223 (.done ((SHost.mk zb),2)) (.done ((SHost.mk p0),0))
def s179(p0:za):Sp (SHost×Int):=.ofFn 179 Q9 Tryz.func179 (show FnD Pg GG [0,2,3,11] Tryz.f179 [.str p0] (g179 p0) (λr=>.tup [.agg [.str r.1.fs],.i r.2]) by unfold FnD;kernel_rfl)
def g199(p0:za):TT (Int×Int):=.call 1002 (s179 p0) [] [] λr224=>.br 0 (r224.2 != 0) (.done (0,r224.2)) (.br 0 ((p0.size:Int)==4) (.done (1,0)) (.done (2,0)))
def s199(p0:za):Sp (Int×Int):=.ofFn 199 Q9 Tryz.func199 (show FnD Pg GG [0,2,3,5,12,16] Tryz.f199 [.str p0] (g199 p0) (λr=>.tup [.i r.1,.i r.2]) by unfold FnD;kernel_rfl)
def g101(p0:Z4):TT (Int):=.call 1003 (s179 p0.fc) [] [] λr226=>.cnd 2 [22] (.br 2004 (r226.2 != 0) (.done true) (.br 2009 (decide (p0.fe < 0)) (.done true) (.done (decide ((65535:Int) < p0.fe))))) zg λc227=>.br 0 c227 (.done 2) (.done 0)
def s101(p0:Z4):Sp (Int):=.ofFn 101 Q9 Tryz.func101 (show FnD Pg GG [0,1,2,4,22] Tryz.f101 [.agg [.str p0.fc,.i p0.fe]] (g101 p0) (λr=>.int .i64 r) by unfold FnD;kernel_rfl)
def g124(p0:za)(p1:Z4):TT (za×Int):=.call 1003 (s199 p1.fc) [] [] λr225=>.cnd 2 [27] (.br 2004 (r225.2 != 0) (.done true) (.call 2005 (s101 p1) [] [] λr228=>.br 2009 (r228 != 0) (.done true) (.done ((p0.size:Int) != 12)))) zg λc229=>.br 0 c229 (.done (zb,2)) (.call 4003 (s198 2 p1.fe) [] [] λr230=>.call 5007 (s201 p0) [] [] λr231=>.call 5008 (s200 r230.1 r231) [] [] λr232=>.chk 5009 (decide ((strOfNums [0,(wu8 r225.1)]).size+r232.size<=9223372036854775807)) (.call 5013 (s201 p0) [] [] λr233=>.call 5014 (s200 p1.fc r233) [] [] λr234=>.chk 5015 (decide (((strOfNums [0,(wu8 r225.1)])++r232).size+r234.size<=9223372036854775807)) (.done ((((strOfNums [0,(wu8 r225.1)])++r232)++r234),0))))
def s124(p0:za)(p1:Z4):Sp (za×Int):=.ofFn 124 Q9 Tryz.func124 (show FnD Pg GG [0,1,3,4,5,6,7,8,27] Tryz.f124 [.str p0,.agg [.str p1.fc,.i p1.fe]] (g124 p0 p1) (λr=>.tup [.str r.1,.i r.2]) by unfold FnD;kernel_rfl)
def g136(p0 p1:za):TT (Z4×Int):=.br 0 ((p0.size:Int) != 12) (.done ((Z4.mk zb 0),2)) (.cnd 3 [23] (.br 3005 ((p1.size:Int) != 8) (.done ((p1.size:Int) != 20)) (.done false)) zg λc209=>.br 0 c209 (.done ((Z4.mk zb 0),5)) (.chk 5002 ((decide (0<=(4:Int))&&decide ((4:Int)<=(p1.size:Int)))&&true) (.call 5004 (s201 p0) [] [] λr211=>.call 5005 (s200 (p1.extract 2 4) r211) [] [] λr219=>.call 5007 (s129 (U5.mk r219 0) 2) [] [] λr220=>.chk 6002 (decide (0<=(4:Int))&&decide ((4:Int)<=(p1.size:Int))) (.call 6004 (s201 p0) [] [] λr221=>.call 6005 (s200 (p1.extract 4 p1.size) r221) [] [] λr222=>.call 7003 (s124 p0 (Z4.mk r222 r220.1)) [] [] λr235=>.cnd 8 [55] (.br 8004 (r235.2 != 0) (.done true) (.done (!decide (r235.1=p1)))) zg λc236=>.br 0 c236 (.done ((Z4.mk zb 0),5)) (.done ((Z4.mk r222 r220.1),0))))))
def s136(p0 p1:za):Sp (Z4×Int):=.ofFn 136 Q9 Tryz.func136 (show FnD Pg GG [0,1,4,5,6,9,10,11,14,23,55] Tryz.f136 [.str p0,.str p1] (g136 p0 p1) (λr=>.tup [.agg [.str r.1.fc,.i r.1.fe],.i r.2]) by unfold FnD;kernel_rfl)
def s62(p0:Z8):Sp (SProbe):=.ofFn 62 Q9 Tryz.func62 (show FnD Pg GG [0,1,2,3,5,12,13,14,15,18,33,57,62] Tryz.f62 [.agg [.i p0.fG,.i p0.fH,.str p0.fj,Sl 2 Q2 p0.fo]] (.chk 1003 (decide (0<=(5:Int))&&decide ((5:Int)<=(p0.fj.size:Int))) (.call 1004 (s135 (p0.fj.extract 5 p0.fj.size)) [] [] λr202=>.bind 1 (.lp (λ(l210:Int×Int×Bool×Int×Bool×za×Int×Int)=>Ext.l .normal [(1,.ptr 1 0 0),(2,.ptr 2 0 0),(3,.ptr 3 0 0),(12,Sl 2 Q2 p0.fo),(13,.i (Y6 Q2 p0.fo)),(14,.i l210.q.2.2.2)] [(1,⟨4,true,[[.i p0.fG,.i p0.fH,.str p0.fj,Sl 2 Q2 p0.fo]]⟩),(2,⟨8,true,[[.i 0,.i 0,.i 0,.bool false,.i 0,.bool false,.str zb,.i 0]]⟩),(3,⟨8,true,[[.i l210.1,.i r202,.i l210.2.1,.bool l210.2.2.1,.i l210.2.2.2.1,.bool l210.q.1,.str l210.q.2.1,.i l210.q.2.2.1]]⟩)]) (λl210=>.br 0 (decide (l210.q.2.2.2 < (Y6 Q2 p0.fo))) (.row 4001 Q2 p0.fo l210.q.2.2.2.toNat (decide (0<=l210.q.2.2.2)) λx211=>.cnd 5 [18] (.br 5005 (x211.fm==36) (.done ((x211.fp.size:Int)==4)) (.done false)) zg λc212=>.br 0 c212 (.call 6003 (s135 x211.fp) [] [] λr213=>.done (.inl (1,r213,l210.2.2.1,l210.2.2.2.1,l210.q.1,l210.q.2.1,l210.q.2.2.1,(Q7 (l210.q.2.2.2+1))))) (.cnd 7 [33] (.br 7005 (x211.fm==32810) (.done ((x211.fp.size:Int)==8)) (.br 7010 (x211.fm==32809) (.done ((x211.fp.size:Int)==8)) (.done false))) zg λc214=>.br 0 c214 (.chk 8006 (decide (0<=(1:Int))&&decide ((1:Int)<=(x211.fp.size:Int))) (.call 8007 (s135 (x211.fp.extract 1 x211.fp.size)) [] [] λr215=>.done (.inl (l210.1,l210.2.1,(x211.fm==32810),r215,l210.q.1,l210.q.2.1,l210.q.2.2.1,(Q7 (l210.q.2.2.2+1)))))) (.br 0 (x211.fm==37) (.done (.inl (l210.1,l210.2.1,l210.2.2.1,l210.2.2.2.1,true,l210.q.2.1,l210.q.2.2.1,(Q7 (l210.q.2.2.2+1))))) (.br 0 (x211.fm==32) (.call 13005 (s136 p0.fj x211.fp) [] [] λr216=>.done (.inl (2,l210.2.1,l210.2.2.1,l210.2.2.2.1,l210.q.1,r216.1.fc,r216.1.fe,(Q7 (l210.q.2.2.2+1))))) (.done (.inl (l210.1,l210.2.1,l210.2.2.1,l210.2.2.2.1,l210.q.1,l210.q.2.1,l210.q.2.2.1,(Q7 (l210.q.2.2.2+1))))))))) (.done (.inr (l210.1,r202,l210.2.1,l210.2.2.1,l210.2.2.2.1,l210.q.1,l210.q.2.1,l210.q.2.2.1)))) (3,0,false,0,false,zb,0,0)) (λ(e217:Int×Int×Int×Bool×Int×Bool×za×Int)=>Ext.l (.exit 0) [(2,.ptr 2 0 0),(3,.ptr 3 0 0)] [(2,⟨8,true,[[.i 0,.i 0,.i 0,.bool false,.i 0,.bool false,.str zb,.i 0]]⟩),(3,⟨8,true,[[.i e217.1,.i e217.2.1,.i e217.2.2.1,.bool e217.2.2.2.1,.i e217.q.1,.bool e217.q.2.1,.str e217.q.2.2.1,.i e217.q.2.2.2]]⟩)]) (λe217=>.done (SProbe.mk e217.1 e217.2.1 e217.2.2.1 e217.2.2.2.1 e217.q.1 e217.q.2.1 (Z4.mk e217.q.2.2.1 e217.q.2.2.2)))):TT (SProbe)) (λr=>.agg [.int .i64 r.fm,.int .i64 r.fj,.int .i64 r.fA,.bool r.fq,.int .i64 r.fw,.bool r.fE,.str r.ft.fc,.int .i64 r.ft.fe]) by unfold FnD;kernel_rfl)
def s122(p0 p1:Int):Sp (za):=.ofFn 122 Q9 Tryz.func122 (show FnD Pg GG [0,1,4,5] Tryz.f122 [.i p0,.i p1] (.call 1003 (s198 p0 p1) [] [] λr218=>.done r218.1:TT (za)) (λr=>.str r) by unfold FnD;kernel_rfl)
def s123(p0:Int)(p1:za)(p2 p3:Int)(p4:za):Sp ((List Q3)):=.ofFnB 123 [11] Q9 Tryz.func123 rfl (λ_=>rfl) (show FnB Pg GG [0,1,2] Tryz.f123 [.i p0,.str p1,.ptr zo 0 0] (Ext.of .normal (H8 [.i p0,.str p1,.ptr zo 0 0]) [(zo,⟨4,true,[[.i p2,.i p3,.str p4,.nilsl]]⟩)] [] (by rfl)) (.app 7 Q2 [] [(Q3.mk p0 p1)] 24 false (by intro h;cases h) (.done ([]++[(Q3.mk p0 p1)])):TT ((List Q3))) (λ(r:(List Q3))=>.tup []) (λ(r:(List Q3))=>Ext.of .normal [] [(zo,⟨4,true,[[.i p2,.i p3,.str p4,Rf 11 r]]⟩)] [Bt 11 Q2 2 r] (by rfl)) by unfold FnB;kernel_rfl)
def s123_1(p0:Int)(p1:za)(p2 p3:Int)(p4:za)(p5:List Q3):Sp ((List Q3)):=.ofFnB 123 [11] Q9 Tryz.func123 rfl (λ_=>rfl) (show FnB Pg GG [0,1,2] Tryz.f123 [.i p0,.str p1,.ptr zo 0 0] (Ext.of .normal (H8 [.i p0,.str p1,.ptr zo 0 0]) [(zo,⟨4,true,[[.i p2,.i p3,.str p4,Rf zt p5]]⟩)] [Bt zt Q2 2 p5] (by rfl)) (.app 7 Q2 p5 [(Q3.mk p0 p1)] 24 false (by intro h;cases h) (.done (p5++[(Q3.mk p0 p1)])):TT ((List Q3))) (λ(r:(List Q3))=>.tup []) (λ(r:(List Q3))=>Ext.of .normal [] [(zo,⟨4,true,[[.i p2,.i p3,.str p4,Rf 11 r]]⟩)] [Bt 11 Q2 2 r] (by rfl)) by unfold FnB;kernel_rfl)
def s125(p0:Int)(p1:za):Sp (za×Int):=.ofFn 125 Q9 Tryz.func125 (show FnD Pg GG [0,1,4,5,6,13] Tryz.f125 [.i p0,.str p1] (.cnd 1 [6] (.br 1004 (decide (p0 < 300)) (.done true) (.done (decide ((699:Int) < p0)))) zg λc230=>.br 0 c230 (.done (zb,2)) (.br 0 (decide ((128:Int) < (p1.size:Int))) (.done (zb,3)) (.chk 5010 (decide ((strOfNums [0,0,(wu8 (Q7 (Int.tdiv p0 100))),(wu8 (Int.tmod p0 100))]).size+p1.size<=9223372036854775807)) (.done (((strOfNums [0,0,(wu8 (Q7 (Int.tdiv p0 100))),(wu8 (Int.tmod p0 100))])++p1),0)))):TT (za×Int)) (λr=>.tup [.str r.1,.int .i64 r.2]) by unfold FnD;kernel_rfl)
def g58(p0:SProbe):TT (Z8):=.call 1001 (s122 5 0) [] [] λr219=>.call 1004 (s122 7 p0.fj) [] [] λr220=>.chk 1005 (decide (r219.size+r220.size<=9223372036854775807)) (.br 0 (p0.fm==1) (.call 9004 (s122 4 p0.fA) [] [] λr221=>.call 9005 (s123 36 r221 0 1 (r219++r220)) [(zo,3)] [(11,500042)] λr222=>.bind 0 (.br 0 p0.fq (.done 32810) (.done 32809)) (λ(e223:Int)=>Ext.of .normal [(1,.ptr 1 0 0),(2,.ptr 2 0 0),(3,.ptr 3 0 0),(4,.fn 123 [] [.ptr 3 0 0]),(5,.i e223)] [(1,⟨8,true,[[.i p0.fm,.i p0.fj,.i p0.fA,.bool p0.fq,.i p0.fw,.bool p0.fE,.str p0.ft.fc,.i p0.ft.fe]]⟩),(2,⟨4,true,[[.i 0,.i 0,.str zb,.nilsl]]⟩),(3,⟨4,true,[[.i 0,.i 1,.str (r219++r220),Rf 500042 r222]]⟩)] [Bt 500042 Q2 2 r222] (by rfl)) (λe223=>.call 13003 (s122 1 0) [] [] λr224=>.call 13006 (s122 7 p0.fw) [] [] λr225=>.chk 13007 (decide (r224.size+r225.size<=9223372036854775807)) (.call 13008 (s123_1 e223 (r224++r225) 0 1 (r219++r220) r222) [(zo,3),(zt,500042)] [(11,500043)] λr226=>.br 0 p0.fE (.call 15002 (s123_1 37 zb 0 1 (r219++r220) r226) [(zo,3),(zt,500043)] [(11,500045)] λr227=>.gh 0 (.share (VwW.o 500045 Q2 r227) 1) (.done (Z8.mk 0 1 (r219++r220) r227))) (.gh 0 (.share (VwW.o 500043 Q2 r226) 1) (.done (Z8.mk 0 1 (r219++r220) r226)))))) (.br 0 (p0.fm==2) (.call 18005 (s124 (r219++r220) (Z4.mk p0.ft.fc p0.ft.fe)) [] [] λr228=>.call 19003 (s123 32 r228.1 2 1 (r219++r220)) [(zo,3)] [(11,500048)] λr229=>.gh 0 (.share (VwW.o 500048 Q2 r229) 1) (.done (Z8.mk 2 1 (r219++r220) r229))) (.call 5001 (s125 487 zb) [] [] λr230=>.call 6003 (s123 9 r230.1 3 1 (r219++r220)) [(zo,3)] [(11,500049)] λr231=>.gh 0 (.share (VwW.o 500049 Q2 r231) 1) (.done (Z8.mk 3 1 (r219++r220) r231)))))
def s58(p0:SProbe):Sp (Z8):=.ofFn 58 Q9 Tryz.func58 (show FnD Pg GG [0,1,2,3,4,5,6,8,18,27,36,46,49] Tryz.f58 [.agg [.i p0.fm,.i p0.fj,.i p0.fA,.bool p0.fq,.i p0.fw,.bool p0.fE,.str p0.ft.fc,.i p0.ft.fe]] (g58 p0) (λr=>.agg [.i r.fG,.i r.fH,.str r.fj,Sl 2 Q2 r.fo]) by unfold FnD;kernel_rfl)
def s60_3(p0:za):Sp (Z8×Int):=decSpec p0
def s39(p0 p1 p2:Int):Sp (Bool):=.ofFn 39 Q9 Tryz.func39 (show FnD Pg GG [0,1,2,6] Tryz.f39 [.i p0,.i p1,.i p2] (.cnd 1 [6] (.br 1005 (decide (p1<=p0)) (.done (decide (p0<=p2))) (.done false)) zg λc236=>.done c236:TT (Bool)) (λr=>.bool r) by unfold FnD;kernel_rfl)
def g49(p0:Z4):TT (Bool):=.cnd 1 [2] (.call 1002 (s101 p0) [] [] λr241=>.br 1005 (r241==0) (.done (decide ((1:Int)<=p0.fe))) (.done false)) zg λc242=>.done c242
def s49(p0:Z4):Sp (Bool):=.ofFn 49 Q9 Tryz.func49 (show FnD Pg GG [0,1,2] Tryz.f49 [.agg [.str p0.fc,.i p0.fe]] (g49 p0) (λr=>.bool r) by unfold FnD;kernel_rfl)
def g48(p0:SProbe):TT (Bool):=.call 1003 (s39 p0.fj 0 1099511627776) [] [] λr237=>.br 0 (!r237) (.done false) (.br 0 (p0.fm==1) (.cnd 5 [2] (.call 5003 (s39 p0.fA 1 2147483647) [] [] λr238=>.br 5005 r238 (.call 5007 (s39 p0.fw 0 281474976710655) [] [] λr239=>.br 5010 r239 (.br 5013 p0.fq (.done ((decide (p0.ft.fc=zb))&&((p0.ft.fe==0)&&true))) (.br 5019 (!p0.fE) (.done ((decide (p0.ft.fc=zb))&&((p0.ft.fe==0)&&true))) (.done false))) (.done false)) (.done false)) zg λc240=>.done c240) (.br 0 (p0.fm==2) (.cnd 7 [2] (.call 7003 (s49 p0.ft) [] [] λr241=>.br 7005 r241 (.done ((p0.fm==p0.fm)&&((p0.fj==p0.fj)&&((p0.fA==0)&&((p0.fq==false)&&((p0.fw==0)&&((p0.fE==false)&&((decide (p0.ft.fc=p0.ft.fc))&&((p0.ft.fe==p0.ft.fe)&&true))))))))) (.done false)) zg λc242=>.done c242) (.br 0 (p0.fm==3) (.done ((p0.fm==p0.fm)&&((p0.fj==p0.fj)&&((p0.fA==0)&&((p0.fq==false)&&((p0.fw==0)&&((p0.fE==false)&&((decide (p0.ft.fc=zb))&&((p0.ft.fe==0)&&true))))))))) (.done false))))
def s48(p0:SProbe):Sp (Bool):=.ofFn 48 Q9 Tryz.func48 (show FnD Pg GG [0,1,2,6,8,9,34,50] Tryz.f48 [.agg [.i p0.fm,.i p0.fj,.i p0.fA,.bool p0.fq,.i p0.fw,.bool p0.fE,.str p0.ft.fc,.i p0.ft.fe]] (g48 p0) (λr=>.bool r) by unfold FnD;kernel_rfl)
def g19(p0:SProbe)(p1:za):TT (za×Int):=.call 1002 (s48 p0) [] [] λr243=>.br 0 (!r243) (.done (zb,110)) (.call 3002 (s58 p0) [] [] λr244=>.call 3004 (s57 r244 p1) [] [] λr245=>.br 0 (r245.2 != 0) (.done (zb,r245.2)) (.call 6002 (s59 r245.1) [] [] λr246=>.done (r246.1,r246.2)))
def s19(p0:SProbe)(p1:za):Sp (za×Int):=.ofFn 19 Q9 Tryz.func19 (show FnD Pg GG [0,1,2,4,5,6,7,10,19] Tryz.f19 [.agg [.i p0.fm,.i p0.fj,.i p0.fA,.bool p0.fq,.i p0.fw,.bool p0.fE,.str p0.ft.fc,.i p0.ft.fe],.str p1] (g19 p0 p1) (λr=>.tup [.str r.1,.i r.2]) by unfold FnD;kernel_rfl)
def g20(p0 p1:za):TT (SProbe×Int):=.call 1002 (s60_3 p0) [] [] λr232=>.bind 0 (.br 0 (r232.2==0) (.call 3003 (s61 r232.1 p1) [] [] λr233=>.done r233) (.done r232.2)) (λ(e234:Int)=>Ext.l .normal [(0,.str p0),(1,.str p1),(4,.ptr 4 0 0),(5,.i 0),(6,.ptr 6 0 0),(7,.i e234)] [(4,⟨8,true,[[.i 0,.i 0,.i 0,.bool false,.i 0,.bool false,.str zb,.i 0]]⟩),(6,⟨4,true,[[.i r232.1.fG,.i r232.1.fH,.str r232.1.fj,Sl 2 Q2 r232.1.fo]]⟩)]) (λe234=>.br 0 (e234 != 0) (.done ((SProbe.mk 0 0 0 false 0 false (Z4.mk zb 0)),e234)) (.call 6002 (s62 r232.1) [] [] λr235=>.call 7003 (s19 r235 p1) [] [] λr247=>.cnd 8 [39] (.br 8004 (r247.2 != 0) (.done true) (.done (!decide (r247.1=p0)))) zg λc248=>.br 0 c248 (.done ((SProbe.mk 0 0 0 false 0 false (Z4.mk zb 0)),5)) (.done (r235,0))))
def s20(p0 p1:za):Sp (SProbe×Int):=.ofFn 20 Q9 Tryz.func20 (show FnD Pg GG [0,1,4,5,6,7,8,9,10,17,22,39] Tryz.f20 [.str p0,.str p1] (g20 p0 p1) (λr=>.tup [.agg [.i r.1.fm,.i r.1.fj,.i r.1.fA,.bool r.1.fq,.i r.1.fw,.bool r.1.fE,.str r.1.ft.fc,.i r.1.ft.fe],.i r.2]) by unfold FnD;kernel_rfl)
def s231(p0 p1 p2:Int):Sp (Bool):=.ofFn 231 Q9 Tryz.func231 (show FnD Pg GG [0,1,2,6] Tryz.f231 [.i p0,.i p1,.i p2] (.cnd 1 [6] (.br 1005 (decide (p1<=p0)) (.done (decide (p0<=p2))) (.done false)) zg λc251=>.done c251:TT (Bool)) (λr=>.bool r) by unfold FnD;kernel_rfl)
def s245 :Sp (Unit):=.ofFnB 245 [] Q9 Tryz.func245 rfl (λ_=>rfl) (show FnB Pg GG [0,2,3,4,5,9,16] Tryz.f245 [.str (bs [48,49,50,51,52,53,54,55,56,57,97,98,99,100,101,102,45])] (Ext.of .normal (H8 [.str (bs [48,49,50,51,52,53,54,55,56,57,97,98,99,100,101,102,45])]) [] [] (by rfl)) (.tt (.ff (.tt (.ff (.tt (.ff (.tt (.ff (.tt (.ff (.tt (.ff (.tt (.ff (.tt (.ff (.tt (.ff (.tt (.ff (.tt (.ff (.tt (.ff (.tt (.ff (.tt (.ff (.tt (.ff (.tt (.ff (.tt (.ff (.ff (.done ()))))))))))))))))))))))))))))))))))):TT (Unit)) (λ(r:Unit)=>.tup [.agg [.bool false,.bool false,.bool false,.bool false,.bool false,.bool false,.bool false,.bool false,.bool false,.bool false,.bool false,.bool false,.bool false,.bool false,.bool false,.bool false,.bool false,.bool false,.bool false,.bool false,.bool false,.bool false,.bool false,.bool false,.bool false,.bool false,.bool false,.bool false,.bool false,.bool false,.bool false,.bool false,.bool false,.bool false,.bool false,.bool false,.bool false,.bool false,.bool false,.bool false,.bool false,.bool false,.bool false,.bool false,.bool false,.bool true,.bool false,.bool false,.bool true,.bool true,.bool true,.bool true,.bool true,.bool true,.bool true,.bool true,.bool true,.bool true,.bool false,.bool false,.bool false,.bool false,.bool false,.bool false,.bool false,.bool false,.bool false,.bool false,.bool false,.bool false,.bool false,.bool false,.bool false,.bool false,.bool false,.bool false,.bool false,.bool false,.bool false,.bool false,.bool false,.bool false,.bool false,.bool false,.bool false,.bool false,.bool false,.bool false,.bool false,.bool false,.bool false,.bool false,.bool false,.bool false,.bool false,.bool false,.bool false,.bool true,.bool true,.bool true,.bool true,.bool true,.bool true,.bool false,.bool false,.bool false,.bool false,.bool false,.bool false,.bool false,.bool false,.bool false,.bool false,.bool false,.bool false,.bool false,.bool false,.bool false,.bool false,.bool false,.bool false,.bool false,.bool false,.bool false,.bool false,.bool false,.bool false,.bool false,.bool false,.bool false,.bool false,.bool false,.bool false,.bool false,.bool false,.bool false,.bool false,.bool false,.bool false,.bool false,.bool false,.bool false,.bool false,.bool false,.bool false,.bool false,.bool false,.bool false,.bool false,.bool false,.bool false,.bool false,.bool false,.bool false,.bool false,.bool false,.bool false,.bool false,.bool false,.bool false,.bool false,.bool false,.bool false,.bool false,.bool false,.bool false,.bool false,.bool false,.bool false,.bool false,.bool false,.bool false,.bool false,.bool false,.bool false,.bool false,.bool false,.bool false,.bool false,.bool false,.bool false,.bool false,.bool false,.bool false,.bool false,.bool false,.bool false,.bool false,.bool false,.bool false,.bool false,.bool false,.bool false,.bool false,.bool false,.bool false,.bool false,.bool false,.bool false,.bool false,.bool false,.bool false,.bool false,.bool false,.bool false,.bool false,.bool false,.bool false,.bool false,.bool false,.bool false,.bool false,.bool false,.bool false,.bool false,.bool false,.bool false,.bool false,.bool false,.bool false,.bool false,.bool false,.bool false,.bool false,.bool false,.bool false,.bool false,.bool false,.bool false,.bool false,.bool false,.bool false,.bool false,.bool false,.bool false,.bool false,.bool false,.bool false,.bool false,.bool false,.bool false,.bool false,.bool false,.bool false,.bool false,.bool false,.bool false,.bool false,.bool false,.bool false,.bool false,.bool false,.bool false,.bool false,.bool false,.bool false],.bool true]) (λ(r:Unit)=>Ext.of .normal [] [] [] (by rfl)) by unfold FnB;kernel_rfl)
def s266(p0:Int):Sp (Bool):=.ofFn 266 Q9 Tryz.func266 (show FnD Pg GG [0,1,4] Tryz.f266 [.snap [.bool false,.bool false,.bool false,.bool false,.bool false,.bool false,.bool false,.bool false,.bool false,.bool false,.bool false,.bool false,.bool false,.bool false,.bool false,.bool false,.bool false,.bool false,.bool false,.bool false,.bool false,.bool false,.bool false,.bool false,.bool false,.bool false,.bool false,.bool false,.bool false,.bool false,.bool false,.bool false,.bool false,.bool false,.bool false,.bool false,.bool false,.bool false,.bool false,.bool false,.bool false,.bool false,.bool false,.bool false,.bool false,.bool true,.bool false,.bool false,.bool true,.bool true,.bool true,.bool true,.bool true,.bool true,.bool true,.bool true,.bool true,.bool true,.bool false,.bool false,.bool false,.bool false,.bool false,.bool false,.bool false,.bool false,.bool false,.bool false,.bool false,.bool false,.bool false,.bool false,.bool false,.bool false,.bool false,.bool false,.bool false,.bool false,.bool false,.bool false,.bool false,.bool false,.bool false,.bool false,.bool false,.bool false,.bool false,.bool false,.bool false,.bool false,.bool false,.bool false,.bool false,.bool false,.bool false,.bool false,.bool false,.bool true,.bool true,.bool true,.bool true,.bool true,.bool true,.bool false,.bool false,.bool false,.bool false,.bool false,.bool false,.bool false,.bool false,.bool false,.bool false,.bool false,.bool false,.bool false,.bool false,.bool false,.bool false,.bool false,.bool false,.bool false,.bool false,.bool false,.bool false,.bool false,.bool false,.bool false,.bool false,.bool false,.bool false,.bool false,.bool false,.bool false,.bool false,.bool false,.bool false,.bool false,.bool false,.bool false,.bool false,.bool false,.bool false,.bool false,.bool false,.bool false,.bool false,.bool false,.bool false,.bool false,.bool false,.bool false,.bool false,.bool false,.bool false,.bool false,.bool false,.bool false,.bool false,.bool false,.bool false,.bool false,.bool false,.bool false,.bool false,.bool false,.bool false,.bool false,.bool false,.bool false,.bool false,.bool false,.bool false,.bool false,.bool false,.bool false,.bool false,.bool false,.bool false,.bool false,.bool false,.bool false,.bool false,.bool false,.bool false,.bool false,.bool false,.bool false,.bool false,.bool false,.bool false,.bool false,.bool false,.bool false,.bool false,.bool false,.bool false,.bool false,.bool false,.bool false,.bool false,.bool false,.bool false,.bool false,.bool false,.bool false,.bool false,.bool false,.bool false,.bool false,.bool false,.bool false,.bool false,.bool false,.bool false,.bool false,.bool false,.bool false,.bool false,.bool false,.bool false,.bool false,.bool false,.bool false,.bool false,.bool false,.bool false,.bool false,.bool false,.bool false,.bool false,.bool false,.bool false,.bool false,.bool false,.bool false,.bool false,.bool false,.bool false,.bool false,.bool false,.bool false,.bool false,.bool false,.bool false,.bool false,.bool false,.bool false,.bool false,.bool false,.bool false,.bool false,.bool false,.bool false,.bool false,.bool false],.int .u8 p0] (.ceq 1004 p0 [0,1,2,3,4,5,6,7,8,9,10,11,12,13,14,15,16,17,18,19,20,21,22,23,24,25,26,27,28,29,30,31,32,33,34,35,36,37,38,39,40,41,42,43,44,45,46,47,48,49,50,51,52,53,54,55,56,57,58,59,60,61,62,63,64,65,66,67,68,69,70,71,72,73,74,75,76,77,78,79,80,81,82,83,84,85,86,87,88,89,90,91,92,93,94,95,96,97,98,99,100,101,102,103,104,105,106,107,108,109,110,111,112,113,114,115,116,117,118,119,120,121,122,123,124,125,126,127,128,129,130,131,132,133,134,135,136,137,138,139,140,141,142,143,144,145,146,147,148,149,150,151,152,153,154,155,156,157,158,159,160,161,162,163,164,165,166,167,168,169,170,171,172,173,174,175,176,177,178,179,180,181,182,183,184,185,186,187,188,189,190,191,192,193,194,195,196,197,198,199,200,201,202,203,204,205,206,207,208,209,210,211,212,213,214,215,216,217,218,219,220,221,222,223,224,225,226,227,228,229,230,231,232,233,234,235,236,237,238,239,240,241,242,243,244,245,246,247,248,249,250,251,252,253,254,255] (λv=>bif [45,48,49,50,51,52,53,54,55,56,57,97,98,99,100,101,102].contains v then .done true else .done false):TT (Bool)) (λr=>.bool r) by unfold FnD;kernel_rfl)
def s247(p0:za):Sp (za):=.ofFn 247 Q9 Tryz.func247 (show FnD Pg GG [0,1,4,7,15] Tryz.f247 [.str p0,.snap [.bool false,.bool false,.bool false,.bool false,.bool false,.bool false,.bool false,.bool false,.bool false,.bool false,.bool false,.bool false,.bool false,.bool false,.bool false,.bool false,.bool false,.bool false,.bool false,.bool false,.bool false,.bool false,.bool false,.bool false,.bool false,.bool false,.bool false,.bool false,.bool false,.bool false,.bool false,.bool false,.bool false,.bool false,.bool false,.bool false,.bool false,.bool false,.bool false,.bool false,.bool false,.bool false,.bool false,.bool false,.bool false,.bool true,.bool false,.bool false,.bool true,.bool true,.bool true,.bool true,.bool true,.bool true,.bool true,.bool true,.bool true,.bool true,.bool false,.bool false,.bool false,.bool false,.bool false,.bool false,.bool false,.bool false,.bool false,.bool false,.bool false,.bool false,.bool false,.bool false,.bool false,.bool false,.bool false,.bool false,.bool false,.bool false,.bool false,.bool false,.bool false,.bool false,.bool false,.bool false,.bool false,.bool false,.bool false,.bool false,.bool false,.bool false,.bool false,.bool false,.bool false,.bool false,.bool false,.bool false,.bool false,.bool true,.bool true,.bool true,.bool true,.bool true,.bool true,.bool false,.bool false,.bool false,.bool false,.bool false,.bool false,.bool false,.bool false,.bool false,.bool false,.bool false,.bool false,.bool false,.bool false,.bool false,.bool false,.bool false,.bool false,.bool false,.bool false,.bool false,.bool false,.bool false,.bool false,.bool false,.bool false,.bool false,.bool false,.bool false,.bool false,.bool false,.bool false,.bool false,.bool false,.bool false,.bool false,.bool false,.bool false,.bool false,.bool false,.bool false,.bool false,.bool false,.bool false,.bool false,.bool false,.bool false,.bool false,.bool false,.bool false,.bool false,.bool false,.bool false,.bool false,.bool false,.bool false,.bool false,.bool false,.bool false,.bool false,.bool false,.bool false,.bool false,.bool false,.bool false,.bool false,.bool false,.bool false,.bool false,.bool false,.bool false,.bool false,.bool false,.bool false,.bool false,.bool false,.bool false,.bool false,.bool false,.bool false,.bool false,.bool false,.bool false,.bool false,.bool false,.bool false,.bool false,.bool false,.bool false,.bool false,.bool false,.bool false,.bool false,.bool false,.bool false,.bool false,.bool false,.bool false,.bool false,.bool false,.bool false,.bool false,.bool false,.bool false,.bool false,.bool false,.bool false,.bool false,.bool false,.bool false,.bool false,.bool false,.bool false,.bool false,.bool false,.bool false,.bool false,.bool false,.bool false,.bool false,.bool false,.bool false,.bool false,.bool false,.bool false,.bool false,.bool false,.bool false,.bool false,.bool false,.bool false,.bool false,.bool false,.bool false,.bool false,.bool false,.bool false,.bool false,.bool false,.bool false,.bool false,.bool false,.bool false,.bool false,.bool false,.bool false,.bool false,.bool false,.bool false,.bool false,.bool false,.bool false,.bool false]] (.bind 1 (.lp (λ(l261:za)=>Ext.l .normal [(0,.str l261),(1,.snap [.bool false,.bool false,.bool false,.bool false,.bool false,.bool false,.bool false,.bool false,.bool false,.bool false,.bool false,.bool false,.bool false,.bool false,.bool false,.bool false,.bool false,.bool false,.bool false,.bool false,.bool false,.bool false,.bool false,.bool false,.bool false,.bool false,.bool false,.bool false,.bool false,.bool false,.bool false,.bool false,.bool false,.bool false,.bool false,.bool false,.bool false,.bool false,.bool false,.bool false,.bool false,.bool false,.bool false,.bool false,.bool false,.bool true,.bool false,.bool false,.bool true,.bool true,.bool true,.bool true,.bool true,.bool true,.bool true,.bool true,.bool true,.bool true,.bool false,.bool false,.bool false,.bool false,.bool false,.bool false,.bool false,.bool false,.bool false,.bool false,.bool false,.bool false,.bool false,.bool false,.bool false,.bool false,.bool false,.bool false,.bool false,.bool false,.bool false,.bool false,.bool false,.bool false,.bool false,.bool false,.bool false,.bool false,.bool false,.bool false,.bool false,.bool false,.bool false,.bool false,.bool false,.bool false,.bool false,.bool false,.bool false,.bool true,.bool true,.bool true,.bool true,.bool true,.bool true,.bool false,.bool false,.bool false,.bool false,.bool false,.bool false,.bool false,.bool false,.bool false,.bool false,.bool false,.bool false,.bool false,.bool false,.bool false,.bool false,.bool false,.bool false,.bool false,.bool false,.bool false,.bool false,.bool false,.bool false,.bool false,.bool false,.bool false,.bool false,.bool false,.bool false,.bool false,.bool false,.bool false,.bool false,.bool false,.bool false,.bool false,.bool false,.bool false,.bool false,.bool false,.bool false,.bool false,.bool false,.bool false,.bool false,.bool false,.bool false,.bool false,.bool false,.bool false,.bool false,.bool false,.bool false,.bool false,.bool false,.bool false,.bool false,.bool false,.bool false,.bool false,.bool false,.bool false,.bool false,.bool false,.bool false,.bool false,.bool false,.bool false,.bool false,.bool false,.bool false,.bool false,.bool false,.bool false,.bool false,.bool false,.bool false,.bool false,.bool false,.bool false,.bool false,.bool false,.bool false,.bool false,.bool false,.bool false,.bool false,.bool false,.bool false,.bool false,.bool false,.bool false,.bool false,.bool false,.bool false,.bool false,.bool false,.bool false,.bool false,.bool false,.bool false,.bool false,.bool false,.bool false,.bool false,.bool false,.bool false,.bool false,.bool false,.bool false,.bool false,.bool false,.bool false,.bool false,.bool false,.bool false,.bool false,.bool false,.bool false,.bool false,.bool false,.bool false,.bool false,.bool false,.bool false,.bool false,.bool false,.bool false,.bool false,.bool false,.bool false,.bool false,.bool false,.bool false,.bool false,.bool false,.bool false,.bool false,.bool false,.bool false,.bool false,.bool false,.bool false,.bool false,.bool false,.bool false,.bool false,.bool false,.bool false,.bool false,.bool false,.bool false]),(4,.str zb)] []) (λl261=>.br 0 (decide ((0:Int) < (l261.size:Int))) (.chk 2006 (decide (0<=(Q7 ((l261.size:Int) - 1))/\(Q7 ((l261.size:Int) - 1)) < (l261.size:Int))) (.call 2007 (s266 (bAt l261 (Q7 ((l261.size:Int) - 1)))) [] [] λr262=>.br 0 (!r262) (.fail) (.chk 3005 (decide (0<=(Q7 ((l261.size:Int) - 1)))&&decide ((Q7 ((l261.size:Int) - 1))<=(l261.size:Int))) (.done (.inl (l261.extract 0 ((Q7 ((l261.size:Int) - 1)).toNat))))))) (.done (.inr l261))) p0) (λ(e263:za)=>Ext.l (.exit 0) [(0,.str e263),(4,.str zb)] []) (λe263=>.done e263):TT (za)) (λr=>.str r) by unfold FnD;kernel_rfl)
def s246(p0:za):Sp (za):=.ofFn 246 Q9 Tryz.func246 (show FnD Pg GG [0,1,4,7,12] Tryz.f246 [.str p0,.snap [.bool false,.bool false,.bool false,.bool false,.bool false,.bool false,.bool false,.bool false,.bool false,.bool false,.bool false,.bool false,.bool false,.bool false,.bool false,.bool false,.bool false,.bool false,.bool false,.bool false,.bool false,.bool false,.bool false,.bool false,.bool false,.bool false,.bool false,.bool false,.bool false,.bool false,.bool false,.bool false,.bool false,.bool false,.bool false,.bool false,.bool false,.bool false,.bool false,.bool false,.bool false,.bool false,.bool false,.bool false,.bool false,.bool true,.bool false,.bool false,.bool true,.bool true,.bool true,.bool true,.bool true,.bool true,.bool true,.bool true,.bool true,.bool true,.bool false,.bool false,.bool false,.bool false,.bool false,.bool false,.bool false,.bool false,.bool false,.bool false,.bool false,.bool false,.bool false,.bool false,.bool false,.bool false,.bool false,.bool false,.bool false,.bool false,.bool false,.bool false,.bool false,.bool false,.bool false,.bool false,.bool false,.bool false,.bool false,.bool false,.bool false,.bool false,.bool false,.bool false,.bool false,.bool false,.bool false,.bool false,.bool false,.bool true,.bool true,.bool true,.bool true,.bool true,.bool true,.bool false,.bool false,.bool false,.bool false,.bool false,.bool false,.bool false,.bool false,.bool false,.bool false,.bool false,.bool false,.bool false,.bool false,.bool false,.bool false,.bool false,.bool false,.bool false,.bool false,.bool false,.bool false,.bool false,.bool false,.bool false,.bool false,.bool false,.bool false,.bool false,.bool false,.bool false,.bool false,.bool false,.bool false,.bool false,.bool false,.bool false,.bool false,.bool false,.bool false,.bool false,.bool false,.bool false,.bool false,.bool false,.bool false,.bool false,.bool false,.bool false,.bool false,.bool false,.bool false,.bool false,.bool false,.bool false,.bool false,.bool false,.bool false,.bool false,.bool false,.bool false,.bool false,.bool false,.bool false,.bool false,.bool false,.bool false,.bool false,.bool false,.bool false,.bool false,.bool false,.bool false,.bool false,.bool false,.bool false,.bool false,.bool false,.bool false,.bool false,.bool false,.bool false,.bool false,.bool false,.bool false,.bool false,.bool false,.bool false,.bool false,.bool false,.bool false,.bool false,.bool false,.bool false,.bool false,.bool false,.bool false,.bool false,.bool false,.bool false,.bool false,.bool false,.bool false,.bool false,.bool false,.bool false,.bool false,.bool false,.bool false,.bool false,.bool false,.bool false,.bool false,.bool false,.bool false,.bool false,.bool false,.bool false,.bool false,.bool false,.bool false,.bool false,.bool false,.bool false,.bool false,.bool false,.bool false,.bool false,.bool false,.bool false,.bool false,.bool false,.bool false,.bool false,.bool false,.bool false,.bool false,.bool false,.bool false,.bool false,.bool false,.bool false,.bool false,.bool false,.bool false,.bool false,.bool false,.bool false,.bool false,.bool false,.bool false,.bool false,.bool false]] (.bind 1 (.lp (λ(l267:za)=>Ext.l .normal [(0,.str l267),(1,.snap [.bool false,.bool false,.bool false,.bool false,.bool false,.bool false,.bool false,.bool false,.bool false,.bool false,.bool false,.bool false,.bool false,.bool false,.bool false,.bool false,.bool false,.bool false,.bool false,.bool false,.bool false,.bool false,.bool false,.bool false,.bool false,.bool false,.bool false,.bool false,.bool false,.bool false,.bool false,.bool false,.bool false,.bool false,.bool false,.bool false,.bool false,.bool false,.bool false,.bool false,.bool false,.bool false,.bool false,.bool false,.bool false,.bool true,.bool false,.bool false,.bool true,.bool true,.bool true,.bool true,.bool true,.bool true,.bool true,.bool true,.bool true,.bool true,.bool false,.bool false,.bool false,.bool false,.bool false,.bool false,.bool false,.bool false,.bool false,.bool false,.bool false,.bool false,.bool false,.bool false,.bool false,.bool false,.bool false,.bool false,.bool false,.bool false,.bool false,.bool false,.bool false,.bool false,.bool false,.bool false,.bool false,.bool false,.bool false,.bool false,.bool false,.bool false,.bool false,.bool false,.bool false,.bool false,.bool false,.bool false,.bool false,.bool true,.bool true,.bool true,.bool true,.bool true,.bool true,.bool false,.bool false,.bool false,.bool false,.bool false,.bool false,.bool false,.bool false,.bool false,.bool false,.bool false,.bool false,.bool false,.bool false,.bool false,.bool false,.bool false,.bool false,.bool false,.bool false,.bool false,.bool false,.bool false,.bool false,.bool false,.bool false,.bool false,.bool false,.bool false,.bool false,.bool false,.bool false,.bool false,.bool false,.bool false,.bool false,.bool false,.bool false,.bool false,.bool false,.bool false,.bool false,.bool false,.bool false,.bool false,.bool false,.bool false,.bool false,.bool false,.bool false,.bool false,.bool false,.bool false,.bool false,.bool false,.bool false,.bool false,.bool false,.bool false,.bool false,.bool false,.bool false,.bool false,.bool false,.bool false,.bool false,.bool false,.bool false,.bool false,.bool false,.bool false,.bool false,.bool false,.bool false,.bool false,.bool false,.bool false,.bool false,.bool false,.bool false,.bool false,.bool false,.bool false,.bool false,.bool false,.bool false,.bool false,.bool false,.bool false,.bool false,.bool false,.bool false,.bool false,.bool false,.bool false,.bool false,.bool false,.bool false,.bool false,.bool false,.bool false,.bool false,.bool false,.bool false,.bool false,.bool false,.bool false,.bool false,.bool false,.bool false,.bool false,.bool false,.bool false,.bool false,.bool false,.bool false,.bool false,.bool false,.bool false,.bool false,.bool false,.bool false,.bool false,.bool false,.bool false,.bool false,.bool false,.bool false,.bool false,.bool false,.bool false,.bool false,.bool false,.bool false,.bool false,.bool false,.bool false,.bool false,.bool false,.bool false,.bool false,.bool false,.bool false,.bool false,.bool false,.bool false,.bool false,.bool false,.bool false,.bool false,.bool false,.bool false,.bool false]),(4,.str zb)] []) (λl267=>.br 0 (decide ((0:Int) < (l267.size:Int))) (.fail) (.done (.inr l267))) p0) (λ(e269:za)=>Ext.l (.exit 0) [(0,.str e269),(4,.str zb)] []) (λe269=>.done e269):TT (za)) (λr=>.str r) by unfold FnD;kernel_rfl)
def s212_1(p0:za):Sp (za):=.ofFn 212 Q9 Tryz.func212 (show FnD Pg GG [0,1,4,5,6,12,21,34] Tryz.f212 [.str p0,.str (bs [48,49,50,51,52,53,54,55,56,57,97,98,99,100,101,102,45])] (.cnd 1 [12] (.br 1004 (decide (p0=zb)) (.fail) (.done false)) zg λc257=>.br 0 c257 (.fail) (.ff (.call 5002 s245 [] [] λr258=>.tt (.view 7002 (s247 p0) [] λr264=>.view 7003 (s246 r264) [] λr270=>.done r270))):TT (za)) (λr=>.str r) by unfold FnD;kernel_rfl)
def s232(p0:Z4):Sp (Bool):=.ofFn 232 Q9 Tryz.func232 (show FnD Pg GG [0,1,2] Tryz.f232 [.agg [.str p0.fc,.i p0.fe]] (.cnd 1 [2] (.call 1002 (s101 p0) [] [] λr272=>.br 1005 (r272==0) (.done (decide ((1:Int)<=p0.fe))) (.fail)) zg λc273=>.done c273:TT (Bool)) (λr=>.bool r) by unfold FnD;kernel_rfl)
def s220(p0:Q6):Sp (Bool):=.ofFn 220 Q9 Tryz.func220 (show FnD Pg GG [0,1,2,25,52] Tryz.f220 [.agg (Q0.c p0)] (.cnd 1 [25] (.call 1003 (s231 p0.fm 1 4) [] [] λr252=>.br 1006 (!r252) (.fail) (.call 1008 (s231 p0.gi 1 256) [] [] λr253=>.br 1012 (!r253) (.fail) (.call 1014 (s231 p0.fA 1 2147483647) [] [] λr254=>.br 1018 (!r254) (.fail) (.call 1021 (s231 (p0.gf.size:Int) 1 80) [] [] λr255=>.done (!r255))))) zg λc256=>.br 0 c256 (.fail) (.cnd 3 [52] (.call 3003 (s212_1 p0.gf) [] [] λr271=>.br 3006 (!decide (r271=zb)) (.fail) (.call 3008 (s232 p0.fJ) [] [] λr274=>.br 3012 (!r274) (.fail) (.call 3014 (s232 p0.fZ) [] [] λr275=>.br 3018 (!r275) (.fail) (.done ((p0.fJ.fc.size:Int) != (p0.fZ.fc.size:Int)))))) zg λc276=>.br 0 c276 (.fail) (.cnd 5 [2] (.br 5007 ((decide (p0.fJ.fc=p0.fZ.fc))&&((p0.fJ.fe==p0.fZ.fe)&&true)) (.done true) (.fail)) zg λc277=>.done c277)):TT (Bool)) (λr=>.bool r) by unfold FnD;kernel_rfl)
def s155(p0:Q6):Sp (Int):=.ofFn 155 Q9 Tryz.func155 (show FnD Pg GG [0,1,2,5] Tryz.f155 [.agg (Q0.c p0)] (.call 1002 (s220 p0) [] [] λr278=>.br 0 (!r278) (.fail) (.done 0):TT (Int)) (λr=>.int .i64 r) by unfold FnD;kernel_rfl)
def s154(p0:Q6):Sp (Bool):=.ofFn 154 Q9 Tryz.func154 (show FnD Pg GG [0,1,2] Tryz.f154 [.agg (Q0.c p0)] (.call 1002 (s155 p0) [] [] λr279=>.done (r279 != 0):TT (Bool)) (λr=>.bool r) by unfold FnD;kernel_rfl)
def s102(p0:List Q6):Sp (Int):=.ofFn 102 Q9 Tryz.func102 (show FnD Pg GG [0,1,4,5,7,8,9,16] Tryz.f102 [Sl 8 Q0 p0,.fn 154 [] []] (.bind2 1 (.lp (λ(l252:Int)=>Ext.l .normal [(0,Sl 8 Q0 p0),(1,.fn 154 [] []),(4,.i 0),(7,.i (Y6 Q0 p0)),(8,.i l252)] []) (λl252=>.br 0 (decide (l252 < (Y6 Q0 p0))) (.row 4004 Q0 p0 l252.toNat (decide (0<=l252)) λx253=>.call 4006 (s154 x253) [] [] λr254=>.br 0 r254 (.fail) (.done (.inl (Q7 (l252+1))))) (.done (.inr (.inr ())))) 0) (λ(e255:Int)=>Ext.l .ret [(4,.i e255)] []) (λ(e256:Unit)=>Ext.l (.exit 0) [(4,.i 0)] []) (λ_=>.fail) (λe256=>.done (-1)):TT (Int)) (λr=>.int .i64 r) by unfold FnD;kernel_rfl)
def s153(p0:List Q6):Sp (Bool):=.ofFn 153 Q9 Tryz.func153 (show FnD Pg GG [0,1,4] Tryz.f153 [Sl 8 Q0 p0,.fn 154 [] []] (.call 1003 (s102 p0) [] [] λr257=>.done (decide ((0:Int)<=r257)):TT (Bool)) (λr=>.bool r) by unfold FnD;kernel_rfl)
def s76(p0:List Q6):Sp (Bool):=.ofFn 76 Q9 Tryz.func76 (show FnD Pg GG [0,2] Tryz.f76 [Sl 8 Q0 p0] (.call 1002 (s153 p0) [] [] λr258=>.done (!r258):TT (Bool)) (λr=>.bool r) by unfold FnD;kernel_rfl)
def s157(p0 p1:Q6):Sp (Bool):=.ofFn 157 Q9 Tryz.func157 (show FnD Pg GG [0,1,2,3,4] Tryz.f157 [.agg (Q0.c p0),.agg (Q0.c p1)] (.cnd 1 [4] (.br 1007 (p0.gi==p1.gi) (.done ((p0.fJ.fc.size:Int)==(p1.fJ.fc.size:Int))) (.done false)) zg λc267=>.done c267:TT (Bool)) (λr=>.bool r) by unfold FnD;kernel_rfl)
def s183(p0 p1:Int):Sp (Int×Int):=.ofFn 183 Q9 Tryz.func183 (show FnD Pg GG [0,1,4,5,6,14,26] Tryz.f183 [.i p0,.i p1] (.cnd 1 [14] (.call 1002 (s231 p0 1 2147483647) [] [] λr272=>.br 1005 (!r272) (.done true) (.call 1006 (s231 p1 1 2147483647) [] [] λr273=>.done (!r273))) zg λc274=>.br 0 c274 (.done (0,2)) (.br 0 (decide (p1 < p0)) (.done ((Q7 ((Q7 ((N6 .i64 (if p1 < p0 then p1 else p0) 32)+(Q7 ((2:Int) * (if p1 > p0 then p1 else p0)))))+1)),0)) (.done ((Q7 ((N6 .i64 (if p1 < p0 then p1 else p0) 32)+(Q7 ((2:Int) * (if p1 > p0 then p1 else p0))))),0))):TT (Int×Int)) (λr=>.tup [.int .i64 r.1,.int .i64 r.2]) by unfold FnD;kernel_rfl)
def s156(p0:N4)(p1:Z2):Sp (Int):=.ofFn 156 Q9 Tryz.func156 (show FnD Pg GG [0,1,3,4,5,6,7,34] Tryz.f156 [.snap [.bool p0.fh.fq,Sl 8 Q0 p0.fh.fB,Sl 8 Q0 p0.fh.fC,Sl 4 Q4 p0.fh.fD],.agg (Q4.c p1)] (.row 1008 Q0 p0.fh.fB p1.fI.toNat (decide (0<=p1.fI)) λx269=>.row 1018 Q0 p0.fh.fC p1.fL.toNat (decide (0<=p1.fL)) λx270=>.bind 0 (.br 0 (!p0.fh.fq) (.done (x270.fA,x269.fA)) (.done (x269.fA,x270.fA))) (λ(e271:Int×Int)=>Ext.l .normal [(4,.i 0),(5,.i e271.1),(6,.i e271.2)] []) (λe271=>.call 4003 (s183 e271.1 e271.2) [] [] λr275=>.done r275.1):TT (Int)) (λr=>.int .i64 r) by unfold FnD;kernel_rfl)
def s82(p0:N4)(p1:Z2):Sp (SLike):=.ofFn 82 Q9 Tryz.func82 (show FnD Pg GG [0,1,3,4,5,6] Tryz.f82 [.snap [.bool p0.fh.fq,Sl 8 Q0 p0.fh.fB,Sl 8 Q0 p0.fh.fC,Sl 4 Q4 p0.fh.fD],.agg (Q4.c p1)] (.row 1008 Q0 p0.fh.fB p1.fI.toNat (decide (0<=p1.fI)) λx277=>.row 1017 Q0 p0.fh.fC p1.fL.toNat (decide (0<=p1.fL)) λx278=>.done (SLike.mk x277.fZ x278.fJ x277.gi):TT (SLike)) (λr=>.agg [.str r.fM.fc,.int .i64 r.fM.fe,.str r.fN.fc,.int .i64 r.fN.fe,.int .i64 r.gg]) by unfold FnD;kernel_rfl)
def s160(p0:N4):Sp (Bool):=.ofFn 160 Q9 Tryz.func160 (show FnD Pg GG [0,2,3,5,48,54,55,56,57,99,134] Tryz.f160 [.snap [.bool p0.fh.fq,Sl 8 Q0 p0.fh.fB,Sl 8 Q0 p0.fh.fC,Sl 4 Q4 p0.fh.fD]] (.cnd 1 [48] (.br 1009 (decide ((12:Int) < (Y6 Q0 p0.fh.fB))) (.fail) (.br 1018 (decide ((12:Int) < (Y6 Q0 p0.fh.fC))) (.fail) (.br 1027 (decide ((36:Int) < (Y6 Q4 p0.fh.fD))) (.fail) (.call 1032 (s76 p0.fh.fB) [] [] λr259=>.br 1036 (!r259) (.fail) (.call 1041 (s76 p0.fh.fC) [] [] λr260=>.done (!r260)))))) zg λc261=>.br 0 c261 (.fail) (.opr 3001 (Rule.makeMap 158 49 1114373 (by decide)) λ_=>.bind2 1 (.lp (λ(l272:(List SEnt158)×Int)=>Ext.of .normal [(0,.snap [.bool p0.fh.fq,Sl 8 Q0 p0.fh.fB,Sl 8 Q0 p0.fh.fC,Sl 4 Q4 p0.fh.fD]),(2,.bool false),(3,.mp 49),(54,Sl 4 Q4 p0.fh.fD),(55,.i (Y6 Q4 p0.fh.fD)),(56,.i l272.2)] [] [Bt 49 tySEnt158 1114373 l272.1] (by rfl)) (λl272=>.br 0 (decide (l272.2 < (Y6 Q4 p0.fh.fD))) (.row 6001 Q4 p0.fh.fD l272.2.toNat (decide (0<=l272.2)) λx273=>.cnd 7 [99] (.br 7005 (decide (x273.fI < 0)) (.fail) (.br 7016 (decide ((Y6 Q0 p0.fh.fB)<=x273.fI)) (.fail) (.br 7021 (decide (x273.fL < 0)) (.fail) (.br 7032 (decide ((Y6 Q0 p0.fh.fC)<=x273.fL)) (.fail) (.br 7037 (decide (x273.gq < 0)) (.fail) (.done (decide ((4:Int) < x273.gq)))))))) zg λc274=>.br 0 c274 (.fail) (.cnd 9 [134] (.row 9008 Q0 p0.fh.fB x273.fI.toNat (decide (0<=x273.fI)) λx275=>.row 9017 Q0 p0.fh.fC x273.fL.toNat (decide (0<=x273.fL)) λx276=>.call 9019 (s157 x275 x276) [] [] λr277=>.br 9022 (!r277) (.fail) (.call 9026 (s156 p0 x273) [] [] λr278=>.br 9030 (x273.fA != r278) (.fail) (.call 9033 (s82 p0 x273) [] [] λr279=>.opr 9034 (Rule.look (mt:=158) (kt:=160) (et:=4) (z:=1114373) (ty:=tySEnt158) (p:=(λx=>((decide (r279.fM.fc=x.fk.fM.fc))&&((r279.fM.fe==x.fk.fM.fe)&&((decide (r279.fN.fc=x.fk.fN.fc))&&((r279.fN.fe==x.fk.fN.fe)&&((r279.gg==x.fk.gg)&&true))))))) (kc:=[.str r279.fM.fc,.int .i64 r279.fM.fe,.str r279.fN.fc,.int .i64 r279.fN.fe,.int .i64 r279.gg]) (.tmp 129) (.tmp 132) 133 49 true l272.1 (.bool false) (.bool (V5 l272.1 (λx=>((decide (r279.fM.fc=x.fk.fM.fc))&&((r279.fM.fe==x.fk.fM.fe)&&((decide (r279.fN.fc=x.fk.fN.fc))&&((r279.fN.fe==x.fk.fN.fe)&&((r279.gg==x.fk.gg)&&true)))))) (λx=>x.fv) false)) ⟨by kernel_rfl,by kernel_rfl,by kernel_rfl,λ_=>by kernel_rfl⟩ (by kernel_rfl) (mlook_map _ _ (λx:SEnt158=>x.fv) false V.bool)) λ_=>.done (V5 l272.1 (λx=>((decide (r279.fM.fc=x.fk.fM.fc))&&((r279.fM.fe==x.fk.fM.fe)&&((decide (r279.fN.fc=x.fk.fN.fc))&&((r279.fN.fe==x.fk.fN.fe)&&((r279.gg==x.fk.gg)&&true)))))) (λx=>x.fv) false)))) zg λc280=>.br 0 c280 (.fail) (.call 11004 (s82 p0 x273) [] [] λr281=>.opr 11005 (Rule.put (mt:=158) (kt:=160) (et:=4) (z:=1114373) (ty:=tySEnt158) (p:=(λx=>((decide (r281.fM.fc=x.fk.fM.fc))&&((r281.fM.fe==x.fk.fM.fe)&&((decide (r281.fN.fc=x.fk.fN.fc))&&((r281.fN.fe==x.fk.fN.fe)&&((r281.gg==x.fk.gg)&&true))))))) (kc:=[.str r281.fM.fc,.int .i64 r281.fM.fe,.str r281.fN.fc,.int .i64 r281.fN.fe,.int .i64 r281.gg]) (.tmp 135) (.tmp 138) (.const (.bool true)) 49 l272.1 (SEnt158.mk r281 true) [.bool true] ⟨by kernel_rfl,by kernel_rfl,by kernel_rfl,λ_=>by kernel_rfl⟩ (by rfl) (by kernel_rfl) (by kernel_rfl) (by decide) (by decide)) λ_=>.done (.inl ((mput l272.1 (λx=>((decide (r281.fM.fc=x.fk.fM.fc))&&((r281.fM.fe==x.fk.fM.fe)&&((decide (r281.fN.fc=x.fk.fN.fc))&&((r281.fN.fe==x.fk.fN.fe)&&((r281.gg==x.fk.gg)&&true)))))) (SEnt158.mk r281 true)),(Q7 (l272.2+1))))))) (.done (.inr (.inr ())))) ([],0)) (λ(e282:Unit)=>Ext.l .ret [(2,.bool false)] []) (λ(e283:Unit)=>Ext.l (.exit 0) [(2,.bool false)] []) (λ_=>.fail) (λe283=>.done true)):TT (Bool)) (λr=>.bool r) by unfold FnD;kernel_rfl)
def s86(p0:H6):Sp (Int):=.ofFn 86 Q9 Tryz.func86 (show FnD Pg GG [0,1,2,3,9] Tryz.f86 [.agg [.bool p0.fq,Sl 8 Q0 p0.fB,Sl 8 Q0 p0.fC,Sl 4 Q4 p0.fD]] (.view 2002 (s160 (N4.mk p0)) [] λr284=>.br 0 (!r284) (.fail) (.done 0):TT (Int)) (λr=>.int .i64 r) by unfold FnD;kernel_rfl)
structure S2String where
 a0:za
 a1:za
structure C5 where
 fk:S2String
 fv:Int
def tySEnt162:Ty C5:=⟨λx=>[.str x.fk.a0,.str x.fk.a1,.i x.fv],λx=>[.str x.fk.a0,.str x.fk.a1,.i x.fv],λ_=>rfl,λ_=>rfl,λ_ _=>rfl,λ_=>rfl⟩
def s156_1(p0:Bool)(p1 p2:List Q6)(p3:Z2):Sp (Int):=.ofFn 156 Q9 Tryz.func156 (show FnD Pg GG [0,1,3,4,5,6,7,34] Tryz.f156 [.snap [.bool p0,Sl 8 Q0 p1,Sl 8 Q0 p2,.nilsl],.agg (Q4.c p3)] (.row 1008 Q0 p1 p3.fI.toNat (decide (0<=p3.fI)) λx285=>.row 1018 Q0 p2 p3.fL.toNat (decide (0<=p3.fL)) λx286=>.bind 0 (.br 0 (!p0) (.done (x286.fA,x285.fA)) (.done (x285.fA,x286.fA))) (λ(e287:Int×Int)=>Ext.l .normal [(4,.i 0),(5,.i e287.1),(6,.i e287.2)] []) (λe287=>.call 4003 (s183 e287.1 e287.2) [] [] λr288=>.done r288.1):TT (Int)) (λr=>.int .i64 r) by unfold FnD;kernel_rfl)
def s221(p0:Nat)(p1 p2:Int)(p3:List Z2):Sp ((List Z2)):=.ofFnB 221 [zo] Q9 Tryz.func221 rfl (λ_=>rfl) (show FnB Pg GG [0,1,2,3,8,9,14,34] Tryz.f221 [.ref zo 0 p0,.i p1,.i p2,.fn 80 [] []] (Ext.of .normal (H8 [.ref zo 0 p0,.i p1,.i p2,.fn 80 [] []]) [] [Bt zo Q4 4 p3] (by rfl)) (.bind 1 (.lp (λ(l332:(List Z2)×Int)=>Ext.of .normal [(0,.ref zo 0 p0),(1,.i p1),(2,.i p2),(3,.fn 80 [] []),(8,.i l332.2)] [] [Bt zo Q4 4 l332.1] (by rfl)) (λl332=>.br 0 (decide (l332.2 < p2)) (.fail) (.done (.inr l332.1))) (p3,(Q7 (p1+1)))) (λ(e352:(List Z2))=>Ext.of (.exit 0) [] [] [Bt zo Q4 4 e352] (by rfl)) (λe352=>.done e352):TT ((List Z2))) (λ(r:(List Z2))=>.tup []) (λ(r:(List Z2))=>Ext.of .normal [] [] [Bt zo Q4 4 r] (by rfl)) by unfold FnB;kernel_rfl)
def s158(p0:Nat)(p1:Int)(p2:List Z2):Sp ((List Z2)):=.ofFnB 158 [zo] Q9 Tryz.func158 rfl (λ_=>rfl) (show FnB Pg GG [0,1,2,6,7,8,9,13,30,35,54] Tryz.f158 [.ref zo 0 p0,.i p1,.fn 80 [] []] (Ext.of .normal (H8 [.ref zo 0 p0,.i p1,.fn 80 [] []]) [] [Bt zo Q4 4 p2] (by rfl)) (.bind 1 (.lp (λ(l313:(List Z2)×Int×Int)=>Ext.of .normal [(0,.ref zo 0 p0),(1,.i p1),(2,.fn 80 [] []),(6,.i 20),(7,.i l313.2.1),(8,.i l313.2.2)] [] [Bt zo Q4 4 l313.1] (by rfl)) (λl313=>.br 0 (decide (l313.2.2<=p1)) (.fail) (.done (.inr (l313.1,l313.2.1)))) (p2,0,20)) (λ(e324:(List Z2)×Int)=>Ext.of (.exit 0) [(0,.ref zo 0 p0),(1,.i p1),(2,.fn 80 [] []),(6,.i 20),(7,.i e324.2)] [] [Bt zo Q4 4 e324.1] (by rfl)) (λe324=>.call 6005 (s221 p0 e324.2 p1 e324.1) [(zo,zo)] [] λr334=>.bind 1 (.lp (λ(l338:Int)=>Ext.of .normal [(0,.ref zo 0 p0),(1,.i p1),(2,.fn 80 [] []),(6,.i l338)] [] [Bt zo Q4 4 r334] (by rfl)) (λl338=>.br 0 (decide (l338 < p1)) (.fail) (.done (.inr ()))) 20) (λ(e341:Unit)=>Ext.of (.exit 2) [] [] [Bt zo Q4 4 r334] (by rfl)) (λe341=>.done r334)):TT ((List Z2))) (λ(r:(List Z2))=>.tup []) (λ(r:(List Z2))=>Ext.of .normal [] [] [Bt zo Q4 4 r] (by rfl)) by unfold FnB;kernel_rfl)
def s79(p0:Nat)(p1:List Z2):Sp ((List Z2)):=.ofFnB 79 [zo] Q9 Tryz.func79 rfl (λ_=>rfl) (show FnB Pg GG [0,1] Tryz.f79 [.ref zo 0 p0,.fn 80 [] []] (Ext.of .normal (H8 [.ref zo 0 p0,.fn 80 [] []]) [] [Bt zo Q4 4 p1] (by rfl)) (.call 5 (s158 p0 (p0:Int) p1) [(zo,zo)] [] λr342=>.done r342:TT ((List Z2))) (λ(r:(List Z2))=>.tup []) (λ(r:(List Z2))=>Ext.of .normal [] [] [Bt zo Q4 4 r] (by rfl)) by unfold FnB;kernel_rfl)
end Go.Proofs.YtjpahkpfkohfkaaGreatDoor
