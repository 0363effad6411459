/- Guides and contracts, printed by a program.
   When a candidate is valid: the program and its reference hold one condition. No conditions.
   When a checklist is valid: the program and its reference hold one condition; what pairs have in common, their priorities. No conditions.
   The drafted and bent lists: they come about for every draft, and are short.
   Octets and numbers: what is put is read; plain lemmas on strings of octets.
   Messages: their size, check, search, octets; plain lemmas on the guides. -/
import Derived.Test.YtjpahkpfkohfkaaGreatDoorB11
import Derived.Test.YtjpahkpfkohfkaaGreatDoorB6
import Derived.Test.YtjpahkpfkohfkaaGreatDoorB8
import Derived.Test.YtjpahkpfkohfkaaGreatDoorB9
import Derived.KernelRfl
set_option linter.unusedVariables false
set_option linter.unusedSimpArgs false
namespace Go.Proofs.YtjpahkpfkohfkaaGreatDoor
open Go Go.EV
set_option maxRecDepth 100000
structure SDraft where
 fKind:Int
 fComponent:Int
 fAddr:Int
 fBase:Int
 fServer:Int
 fPreference:Int
structure R0 where
 fWhat:Int
 fFrom:Int
 fTo:Int
 fId:Int
 fAfter:Int
 fTie:Int
 fControlling:Bool
 fUse:Bool
structure SDraft1 where
 fLocals:(List SDraft)
 fRemotes:(List SDraft)
 fControlling:Bool
 fTie:Int
 fEvents:(List R0)
structure S2Tannoyref11Event where
 a0:R0
 a1:R0
def E7:Ty SDraft:=⟨fun x=>[.int .u8 x.fKind,.int .u8 x.fComponent,.int .u8 x.fAddr,.int .u8 x.fBase,.int .u8 x.fServer,.int .u16 x.fPreference],fun x=>[.int .u8 x.fKind,.int .u8 x.fComponent,.int .u8 x.fAddr,.int .u8 x.fBase,.int .u8 x.fServer,.int .u16 x.fPreference],fun _=>rfl,fun _=>rfl,fun _ _=>rfl,fun _=>rfl⟩
def R7:Ty R0:=⟨fun x=>[.int .u8 x.fWhat,.int .u8 x.fFrom,.int .u8 x.fTo,.int .u8 x.fId,.int .u16 x.fAfter,.int .u8 x.fTie,.bool x.fControlling,.bool x.fUse],fun x=>[.int .u8 x.fWhat,.int .u8 x.fFrom,.int .u8 x.fTo,.int .u8 x.fId,.int .u16 x.fAfter,.int .u8 x.fTie,.bool x.fControlling,.bool x.fUse],fun _=>rfl,fun _=>rfl,fun _ _=>rfl,fun _=>rfl⟩
noncomputable def g45 (p0:Int):TT (Z2):=
 .br 0 ((Int.tmod p0 8)==7)
 (.done (Z2.mk (strOfNums [32,1,13,184,0,0,0,0,0,0,0,0,0,0,0,(Int.tmod (wu8 (Int.tdiv p0 8)) 3)]) (Q7 ((1:Int)+(Q7 (wu8 (Int.tdiv p0 24)))))))
 (.done (Z2.mk (strOfNums [10,0,0,(Int.tmod p0 8)]) (Q7 ((1:Int)+(Q7 (Int.tmod (wu8 (Int.tdiv p0 8)) 4))))))
noncomputable def s45 (p0:Int):EV.Spec Tryz.prog GG (Z2):=.ofFn 45 Q8 Tryz.func45 (show FnD Tryz.prog GG [0,2,5] Tryz.f45 [.int .u8 p0] (g45 p0) (fun r=>.agg [.str r.fHost,.i r.fPort]) by unfold FnD;kernel_rfl)
noncomputable def g35 (p0:SDraft):TT (Q3):=
 .call 2003 (s45 p0.fAddr) [] [] fun r892=>
 .call 2006 (s45 p0.fBase) [] [] fun r893=>
 .cnd 3 [35]
 (.br 3004 ((Q7 ((1:Int)+(Q7 (Int.tmod p0.fKind 4))))==1)
  (.done true)
  (.br 3008 ((Q7 ((1:Int)+(Q7 (Int.tmod p0.fKind 4))))==4)
   (.done true)
   (.done ((r893.fHost.size:Int) != (r892.fHost.size:Int)))))
 (fun(c894:Bool)=>[.bool c894]) fun c894=>
 .bind 0
 (.br 0 c894
  (.done (r892.fHost,r892.fPort))
  (.done (r893.fHost,r893.fPort)))
 (fun(e895:ByteArray×Int)=>Ext.lit .normal [(1,.ptr 1 0 0),(2,.ptr 2 0 0),(3,.i (Q7 ((1:Int)+(Q7 (Int.tmod p0.fKind 4))))),(4,.ptr 4 0 0),(5,.ptr 5 0 0),(6,.ptr 6 0 0)] [(1,⟨6,true,[(E7.c p0)]⟩),(2,⟨8,true,[[.i 0,.i 0,.i 0,.str ByteArray.empty,.str ByteArray.empty,.i 0,.str ByteArray.empty,.i 0]]⟩),(4,⟨2,true,[[.str r892.fHost,.i r892.fPort]]⟩),(5,⟨2,true,[[.str e895.1,.i e895.2]]⟩),(6,⟨2,true,[[.str ByteArray.empty,.i 0]]⟩)])
 (fun e895=>
  .cnd 5 [42]
  (.br 5004 ((Q7 ((1:Int)+(Q7 (Int.tmod p0.fKind 4))))==3)
   (.done true)
   (.done ((Q7 ((1:Int)+(Q7 (Int.tmod p0.fKind 4))))==4)))
  (fun(c896:Bool)=>[.bool c896]) fun c896=>
  .bind 0
  (.br 0 c896
   (.call 6003 (s45 p0.fServer) [] [] fun r897=>
    .done (r897.fHost,r897.fPort))
   (.done (ByteArray.empty,0)))
  (fun(e898:ByteArray×Int)=>Ext.lit .normal [(1,.ptr 1 0 0),(2,.ptr 2 0 0),(3,.i (Q7 ((1:Int)+(Q7 (Int.tmod p0.fKind 4))))),(4,.ptr 4 0 0),(5,.ptr 5 0 0),(6,.ptr 6 0 0)] [(1,⟨6,true,[(E7.c p0)]⟩),(2,⟨8,true,[[.i 0,.i 0,.i 0,.str ByteArray.empty,.str ByteArray.empty,.i 0,.str ByteArray.empty,.i 0]]⟩),(4,⟨2,true,[[.str r892.fHost,.i r892.fPort]]⟩),(5,⟨2,true,[[.str e895.1,.i e895.2]]⟩),(6,⟨2,true,[[.str e898.1,.i e898.2]]⟩)])
  (fun e898=>
   .call 7015 (s74 (Q7 ((1:Int)+(Q7 (Int.tmod p0.fKind 4)))) r892 (Z2.mk e895.1 e895.2) (Z2.mk e898.1 e898.2) (Q7 ((1:Int)+(Int.tmod (Q7 p0.fPreference) 65535))) (Q7 ((1:Int)+(Q7 (Int.tmod p0.fComponent 2))))) [] [] fun r899=>
   .done r899.1))
noncomputable def s35 (p0:SDraft):EV.Spec Tryz.prog GG (Q3):=.ofFn 35 Q8 Tryz.func35 (show FnD Tryz.prog GG [0,1,2,3,4,5,6,7,35,42] Tryz.f35 [.agg (E7.c p0)] (g35 p0) (fun r=>.agg (Q0.c r)) by unfold FnD;kernel_rfl)
noncomputable def g10 (p0:List SDraft) (p1:Int):TT ((List Q3)):=
 .gh 1 (.virt 600147 5 8) (.bind 0
 (.lp (fun(l893:(List Q3)×Int)=>Ext.of .normal [(0,.sl false 6 (List.map E7.c p0)),(1,.i p1),(4,.nilsl),(5,.ref 600147 0 l893.1.length),(6,.i l893.2)] [] [BT.of 600147 Q0 8 l893.1 true] (by rfl))
  (fun l893=>
   .cnd 3 [16]
   (.br 3006 (decide (l893.2 < (Y5 E7 p0)))
    (.done (decide (l893.2 < p1)))
    (.done false))
   (fun(c894:Bool)=>[.bool c894]) fun c894=>
   .br 0 c894
   (.row 5003 E7 p0 l893.2.toNat (decide (0≤l893.2)) fun x895=>
    .call 10003 (s35 (SDraft.mk x895.fKind 0 (Int.tmod x895.fAddr 7) (Int.tmod x895.fBase 7) (Int.tmod x895.fServer 7) x895.fPreference)) [] [] fun r896=>
    .app 10005 Q0 l893.1 [r896] 88 false (by intro h;cases h) (.gh 0 (.drop [600147]) (.gh 0 (.ren 40 600147) (.done (.inl ((l893.1++[r896]),(Q7 (l893.2+1))))))))
   (.done (.inr l893.1)))
  ([],0))
 (fun(e897:(List Q3))=>Ext.of (.exit 0) [(4,.nilsl),(5,.ref 600147 0 e897.length)] [] [BT.of 600147 Q0 8 e897 true] (by rfl))
 (fun e897=>
  .gh 0 (.share (VwW.of 600147 Q0 e897) 1) (.done e897)))
noncomputable def s10 (p0:List SDraft) (p1:Int):EV.Spec Tryz.prog GG ((List Q3)):=.ofFn 10 Q8 Tryz.func10 (show FnD Tryz.prog GG [0,1,4,5,6,7,16] Tryz.f10 [.sl false 6 (List.map E7.c p0),.i p1] (g10 p0 p1) (fun r=>.sl false 8 (List.map Q0.c r)) by unfold FnD;kernel_rfl)
noncomputable def g187 (p0:List Q3):TT (Bool):=
 .bind2 1
 (.lp (fun(l904:Int)=>Ext.lit .normal [(0,.sl false 8 (List.map Q0.c p0)),(2,.bool false),(3,.i l904)] [])
  (fun l904=>
   .br 0 (decide (l904 < (Y5 Q0 p0)))
   (.row 4003 Q0 p0 l904.toNat (decide (0≤l904)) fun x905=>
    .call 4005 (s152 x905) [] [] fun r906=>
    .br 0 (!r906)
    (.done (.inr (.inl ())))
    (.done (.inl (Q7 (l904+1)))))
   (.done (.inr (.inr ()))))
  0)
 (fun(e907:Unit)=>Ext.lit .ret [(2,.bool false)] [])
 (fun(e908:Unit)=>Ext.lit (.exit 0) [(2,.bool false)] [])
 (fun e907=>
  .done false)
 (fun e908=>
  .done true)
noncomputable def s187 (p0:List Q3):EV.Spec Tryz.prog GG (Bool):=.ofFn 187 Q8 Tryz.func187 (show FnD Tryz.prog GG [0,2,3,7,15] Tryz.f187 [.sl false 8 (List.map Q0.c p0)] (g187 p0) (fun r=>.bool r) by unfold FnD;kernel_rfl)
noncomputable def g188 (p0 p1:Q3):TT (Bool):=
 .cnd 1 [4]
 (.br 1007 (p0.fComponent==p1.fComponent)
  (.done ((p0.fAddr.fHost.size:Int)==(p1.fAddr.fHost.size:Int)))
  (.done false))
 (fun(c916:Bool)=>[.bool c916]) fun c916=>
 .done c916
noncomputable def s188 (p0 p1:Q3):EV.Spec Tryz.prog GG (Bool):=.ofFn 188 Q8 Tryz.func188 (show FnD Tryz.prog GG [0,1,2,3,4] Tryz.f188 [.agg (Q0.c p0),.agg (Q0.c p1)] (g188 p0 p1) (fun r=>.bool r) by unfold FnD;kernel_rfl)
noncomputable def g234 (p0 p1:Int):TT (Int×Int):=
 .cnd 1 [19]
 (.br 1004 (decide (p0 < 1))
  (.done true)
  (.br 1008 (decide ((2147483647:Int) < p0))
   (.done true)
   (.br 1012 (decide (p1 < 1))
    (.done true)
    (.done (decide ((2147483647:Int) < p1))))))
 (fun(c920:Bool)=>[.bool c920]) fun c920=>
 .br 0 c920
 (.done (0,2))
 (.br 0 (decide (p1 < p0))
  (.done ((Q7 ((Q7 ((Q7 (p1 * 4294967296))+(Q7 ((2:Int) * p0))))+1)),0))
  (.done ((Q7 ((Q7 (p0 * 4294967296))+(Q7 ((2:Int) * p1)))),0)))
noncomputable def s234 (p0 p1:Int):EV.Spec Tryz.prog GG (Int×Int):=.ofFn 234 Q8 Tryz.func234 (show FnD Tryz.prog GG [0,1,4,5,19,22] Tryz.f234 [.i p0,.i p1] (g234 p0 p1) (fun r=>.tup [.i r.1,.i r.2]) by unfold FnD;kernel_rfl)
noncomputable def g189 (p0:Y8) (p1:Q9):TT (Int):=
 .row 1005 Q0 p0.fLocals p1.fLocal.toNat (decide (0≤p1.fLocal)) fun x918=>
 .row 1012 Q0 p0.fRemotes p1.fRemote.toNat (decide (0≤p1.fRemote)) fun x919=>
 .br 0 p0.fControlling
 (.call 3003 (s234 x918.fPriority x919.fPriority) [] [] fun r920=>
  .done r920.1)
 (.call 5003 (s234 x919.fPriority x918.fPriority) [] [] fun r921=>
  .done r921.1)
noncomputable def s189 (p0:Y8) (p1:Q9):EV.Spec Tryz.prog GG (Int):=.ofFn 189 Q8 Tryz.func189 (show FnD Tryz.prog GG [0,1,2,3,4,5,6,7,9,26] Tryz.f189 [.agg [.bool p0.fControlling,.sl false 8 (List.map Q0.c p0.fLocals),.sl false 8 (List.map Q0.c p0.fRemotes),.sl false 4 (List.map Q2.c p0.fPairs)],.agg (Q2.c p1)] (g189 p0 p1) (fun r=>.int .i64 r) by unfold FnD;kernel_rfl)
noncomputable def g190 (p0 p1:Q9):TT (Bool):=
 .br 0 (p0.fPriority != p1.fPriority)
 (.done (decide (p1.fPriority < p0.fPriority)))
 (.br 0 (p0.fLocal != p1.fLocal)
  (.done (decide (p0.fLocal < p1.fLocal)))
  (.done (decide (p0.fRemote < p1.fRemote))))
noncomputable def s190 (p0 p1:Q9):EV.Spec Tryz.prog GG (Bool):=.ofFn 190 Q8 Tryz.func190 (show FnD Tryz.prog GG [0,1,2,3,4,9,19] Tryz.f190 [.agg (Q2.c p0),.agg (Q2.c p1)] (g190 p0 p1) (fun r=>.bool r) by unfold FnD;kernel_rfl)
noncomputable def g191 (p0:Y8) (p1 p2:Q9):TT (Bool):=
 .row 1005 Q0 p0.fLocals p1.fLocal.toNat (decide (0≤p1.fLocal)) fun x972=>
 .row 1011 Q0 p0.fRemotes p1.fRemote.toNat (decide (0≤p1.fRemote)) fun x973=>
 .row 1017 Q0 p0.fLocals p2.fLocal.toNat (decide (0≤p2.fLocal)) fun x974=>
 .row 1023 Q0 p0.fRemotes p2.fRemote.toNat (decide (0≤p2.fRemote)) fun x975=>
 .cnd 2 [6]
 (.br 2007 ((decide (x972.fBase.fHost=x974.fBase.fHost))&&((x972.fBase.fPort==x974.fBase.fPort)&&true))
  (.br 2014 ((decide (x973.fAddr.fHost=x975.fAddr.fHost))&&((x973.fAddr.fPort==x975.fAddr.fPort)&&true))
   (.done (x972.fComponent==x974.fComponent))
   (.done false))
  (.done false))
 (fun(c976:Bool)=>[.bool c976]) fun c976=>
 .done c976
noncomputable def s191 (p0:Y8) (p1 p2:Q9):EV.Spec Tryz.prog GG (Bool):=.ofFn 191 Q8 Tryz.func191 (show FnD Tryz.prog GG [0,1,2,3,4,5,6,7,8,9,10] Tryz.f191 [.agg [.bool p0.fControlling,.sl false 8 (List.map Q0.c p0.fLocals),.sl false 8 (List.map Q0.c p0.fRemotes),.sl false 4 (List.map Q2.c p0.fPairs)],.agg (Q2.c p1),.agg (Q2.c p2)] (g191 p0 p1 p2) (fun r=>.bool r) by unfold FnD;kernel_rfl)
noncomputable def g192 (p0:Y8) (p1 p2:Q9):TT (Bool):=
 .cnd 1 [6]
 (.row 1005 Q0 p0.fLocals p1.fLocal.toNat (decide (0≤p1.fLocal)) fun x990=>
  .row 1012 Q0 p0.fLocals p2.fLocal.toNat (decide (0≤p2.fLocal)) fun x991=>
  .br 1017 (decide (x990.fFoundation=x991.fFoundation))
  (.row 1021 Q0 p0.fRemotes p1.fRemote.toNat (decide (0≤p1.fRemote)) fun x992=>
   .row 1028 Q0 p0.fRemotes p2.fRemote.toNat (decide (0≤p2.fRemote)) fun x993=>
   .done (decide (x992.fFoundation=x993.fFoundation)))
  (.done false))
 (fun(c994:Bool)=>[.bool c994]) fun c994=>
 .done c994
noncomputable def s192 (p0:Y8) (p1 p2:Q9):EV.Spec Tryz.prog GG (Bool):=.ofFn 192 Q8 Tryz.func192 (show FnD Tryz.prog GG [0,1,2,3,4,5,6] Tryz.f192 [.agg [.bool p0.fControlling,.sl false 8 (List.map Q0.c p0.fLocals),.sl false 8 (List.map Q0.c p0.fRemotes),.sl false 4 (List.map Q2.c p0.fPairs)],.agg (Q2.c p1),.agg (Q2.c p2)] (g192 p0 p1 p2) (fun r=>.bool r) by unfold FnD;kernel_rfl)
noncomputable def g116 (p0 p1:List Q3) (p2:Bool):TT (Y8×Int):=
 .cnd 1 [30]
 (.br 1005 (decide ((12:Int) < (Y5 Q0 p0)))
  (.done true)
  (.done (decide ((12:Int) < (Y5 Q0 p1)))))
 (fun(c900:Bool)=>[.bool c900]) fun c900=>
 .br 0 c900
 (.done ((Y8.mk false [] [] []),3))
 (.cnd 3 [39]
  (.call 3002 (s187 p0) [] [] fun r909=>
   .br 3005 (!r909)
   (.done true)
   (.call 3006 (s187 p1) [] [] fun r910=>
    .done (!r910)))
  (fun(c911:Bool)=>[.bool c911]) fun c911=>
  .br 0 c911
  (.done ((Y8.mk false [] [] []),90))
  (.gh 1 (.virt 600161 9 4) (.bind 0
   (.lp (fun(l935:(List Q9)×Int)=>Ext.of .normal [(0,.sl false 8 (List.map Q0.c p0)),(1,.sl false 8 (List.map Q0.c p1)),(6,.ptr 6 0 0),(7,.i 0),(8,.ptr 8 0 0),(9,.ref 600161 0 l935.1.length),(10,.i l935.2)] [(6,⟨4,true,[[.bool false,.nilsl,.nilsl,.nilsl]]⟩),(8,⟨4,true,[[.bool p2,.sl false 8 (List.map Q0.c p0),.sl false 8 (List.map Q0.c p1),.nilsl]]⟩)] [BT.of 600161 Q2 4 l935.1 true] (by rfl))
    (fun l935=>
     .br 0 (decide (l935.2 < (Y5 Q0 p0)))
     (.gh 1 (.ren 600161 600165) (.bind 0
      (.lp (fun(l950:(List Q9)×Int)=>Ext.of .normal [(0,.sl false 8 (List.map Q0.c p0)),(1,.sl false 8 (List.map Q0.c p1)),(6,.ptr 6 0 0),(7,.i 0),(8,.ptr 8 0 0),(9,.ref 600165 0 l950.1.length),(10,.i l935.2),(11,.i l950.2)] [(6,⟨4,true,[[.bool false,.nilsl,.nilsl,.nilsl]]⟩),(8,⟨4,true,[[.bool p2,.sl false 8 (List.map Q0.c p0),.sl false 8 (List.map Q0.c p1),.nilsl]]⟩)] [BT.of 600165 Q2 4 l950.1 true] (by rfl))
       (fun l950=>
        .br 0 (decide (l950.2 < (Y5 Q0 p1)))
        (.row 14003 Q0 p0 l935.2.toNat (decide (0≤l935.2)) fun x951=>
         .row 14007 Q0 p1 l950.2.toNat (decide (0≤l950.2)) fun x952=>
         .call 14009 (s188 x951 x952) [] [] fun r953=>
         .br 0 r953
         (.call 15003 (s189 (Y8.mk p2 p0 p1 []) (Q9.mk l935.2 l950.2 0 0)) [] [] fun r954=>
          .bind 1
          (.lp (fun(l959:Int)=>Ext.of .normal [(0,.sl false 8 (List.map Q0.c p0)),(1,.sl false 8 (List.map Q0.c p1)),(6,.ptr 6 0 0),(7,.i 0),(8,.ptr 8 0 0),(9,.ref 600165 0 l950.1.length),(10,.i l935.2),(11,.i l950.2),(12,.ptr 12 0 0),(13,.i l959)] [(6,⟨4,true,[[.bool false,.nilsl,.nilsl,.nilsl]]⟩),(8,⟨4,true,[[.bool p2,.sl false 8 (List.map Q0.c p0),.sl false 8 (List.map Q0.c p1),.nilsl]]⟩),(12,⟨4,true,[[.i l935.2,.i l950.2,.i r954,.i 0]]⟩)] [BT.of 600165 Q2 4 l950.1 true] (by rfl))
           (fun l959=>
            .cnd 17 [85]
            (.br 17004 (decide ((0:Int) < l959))
             (.chk 17008 (decide (0≤(Q7 (l959 - 1)))&&decide ((Q7 (l959 - 1)) < (l950.1.length:Int))) (.row 17009 Q2 l950.1 (0+(Q7 (l959 - 1)).toNat) true fun x960=>
              .call 17010 (s190 (Q9.mk l935.2 l950.2 r954 0) x960) [] [] fun r961=>
              .done r961))
             (.done false))
            (fun(c962:Bool)=>[.bool c962]) fun c962=>
            .br 0 c962
            (.done (.inl (Q7 (l959 - 1))))
            (.done (.inr (r954,l959))))
           (l950.1.length:Int))
          (fun(e963:Int×Int)=>Ext.of (.exit 4) [(0,.sl false 8 (List.map Q0.c p0)),(1,.sl false 8 (List.map Q0.c p1)),(6,.ptr 6 0 0),(7,.i 0),(8,.ptr 8 0 0),(9,.ref 600165 0 l950.1.length),(10,.i l935.2),(11,.i l950.2),(12,.ptr 12 0 0),(13,.i e963.2)] [(6,⟨4,true,[[.bool false,.nilsl,.nilsl,.nilsl]]⟩),(8,⟨4,true,[[.bool p2,.sl false 8 (List.map Q0.c p0),.sl false 8 (List.map Q0.c p1),.nilsl]]⟩),(12,⟨4,true,[[.i l935.2,.i l950.2,.i e963.1,.i 0]]⟩)] [BT.of 600165 Q2 4 l950.1 true] (by rfl))
          (fun e963=>
           .chk 20004 (decide (0≤e963.2)&&decide (e963.2≤(l950.1.length:Int))) (.opr 20005 (Rule.appPart (ty:=Q2) (t:=28) (t2:=28) (e:=106) (e2:=106) (z:=4) (bytes:=32) (.tmp 88) (.tmp 91) 92 none true [] 600165 0 e963.2.toNat true l950.1 (by kernel_rfl) (by kernel_rfl) (by kernel_rfl) (by decide) (by kernel_rfl) (fun _=>rfl) (by decide) (by simp)) fun _=>
           .app 20008 Q2 ([]++(l950.1.drop 0).take e963.2.toNat) [(Q9.mk l935.2 l950.2 e963.1 0)] 32 false (by intro h;cases h) (.chk 21004 (decide (0≤e963.2)&&decide (e963.2≤(l950.1.length:Int))) (.opr 21005 (Rule.appPart (ty:=Q2) (t:=28) (t2:=28) (e:=106) (e2:=106) (z:=4) (bytes:=32) (.tmp 96) (.tmp 99) 100 (some 95) true (([]++(l950.1.drop 0).take e963.2.toNat)++[(Q9.mk l935.2 l950.2 e963.1 0)]) 600165 e963.2.toNat (l950.1.length - e963.2.toNat) true l950.1 (by kernel_rfl) (by kernel_rfl) (by kernel_rfl) (by decide) (by kernel_rfl) (fun _=>rfl) (by decide) (by simp)) fun _=>
           .gh 0 (.drop [600165]) (.gh 0 (.ren 100 600165) (.done (.inl (((([]++(l950.1.drop 0).take e963.2.toNat)++[(Q9.mk l935.2 l950.2 e963.1 0)])++(l950.1.drop e963.2.toNat).take (l950.1.length - e963.2.toNat)),(Q7 (l950.2+1)))))))))))
         (.done (.inl (l950.1,(Q7 (l950.2+1))))))
        (.done (.inr l950.1)))
       (l935.1,0))
      (fun(e964:(List Q9))=>Ext.of (.exit 2) [(0,.sl false 8 (List.map Q0.c p0)),(1,.sl false 8 (List.map Q0.c p1)),(6,.ptr 6 0 0),(7,.i 0),(8,.ptr 8 0 0),(9,.ref 600165 0 e964.length),(10,.i l935.2)] [(6,⟨4,true,[[.bool false,.nilsl,.nilsl,.nilsl]]⟩),(8,⟨4,true,[[.bool p2,.sl false 8 (List.map Q0.c p0),.sl false 8 (List.map Q0.c p1),.nilsl]]⟩)] [BT.of 600165 Q2 4 e964 true] (by rfl))
      (fun e964=>
       .gh 0 (.ren 600165 600161) (.done (.inl (e964,(Q7 (l935.2+1))))))))
     (.done (.inr l935.1)))
    ([],0))
   (fun(e965:(List Q9))=>Ext.of (.exit 0) [(6,.ptr 6 0 0),(7,.i 0),(8,.ptr 8 0 0),(9,.ref 600161 0 e965.length)] [(6,⟨4,true,[[.bool false,.nilsl,.nilsl,.nilsl]]⟩),(8,⟨4,true,[[.bool p2,.sl false 8 (List.map Q0.c p0),.sl false 8 (List.map Q0.c p1),.nilsl]]⟩)] [BT.of 600161 Q2 4 e965 true] (by rfl))
   (fun e965=>
    .gh 1 (.virtC 600167 8 3 4) (.bind 0
    (.lp (fun(l968:(List Q9)×Int)=>Ext.of .normal [(6,.ptr 6 0 0),(7,.i 0),(8,.ptr 8 0 0),(9,.ref 600161 0 e965.length),(15,.i l968.2)] [(6,⟨4,true,[[.bool false,.nilsl,.nilsl,.nilsl]]⟩),(8,⟨4,true,[[.bool p2,.sl false 8 (List.map Q0.c p0),.sl false 8 (List.map Q0.c p1),.ref 600167 0 l968.1.length]]⟩)] [BT.of 600161 Q2 4 e965 true,BT.of 600167 Q2 4 l968.1 true] (by rfl))
     (fun l968=>
      .br 0 (decide (l968.2 < (e965.length:Int)))
      (.bind 2
       (.lp (fun(l973:Bool×Int)=>Ext.of .normal [(6,.ptr 6 0 0),(7,.i 0),(8,.ptr 8 0 0),(9,.ref 600161 0 e965.length),(15,.i l968.2),(16,.bool l973.1),(17,.i l973.2)] [(6,⟨4,true,[[.bool false,.nilsl,.nilsl,.nilsl]]⟩),(8,⟨4,true,[[.bool p2,.sl false 8 (List.map Q0.c p0),.sl false 8 (List.map Q0.c p1),.ref 600167 0 l968.1.length]]⟩)] [BT.of 600161 Q2 4 e965 true,BT.of 600167 Q2 4 l968.1 true] (by rfl))
        (fun l973=>
         .br 0 (decide (l973.2 < l968.2))
         (.cnd 29 [16]
          (.br 29003 l973.1
           (.done true)
           (.chk 29006 (decide (0≤l968.2)&&decide (l968.2 < (e965.length:Int))) (.row 29007 Q2 e965 (0+l968.2.toNat) true fun x974=>
            .chk 29010 (decide (0≤l973.2)&&decide (l973.2 < (e965.length:Int))) (.row 29011 Q2 e965 (0+l973.2.toNat) true fun x975=>
            .view 29012 (s191 (Y8.mk p2 p0 p1 l968.1) x974 x975) [(VwW.of 600167 Q2 l968.1)] fun r976=>
            .done r976))))
          (fun(c977:Bool)=>[.bool c977]) fun c977=>
          .done (.inl (c977,(Q7 (l973.2+1)))))
         (.done (.inr l973.1)))
        (false,0))
       (fun(e978:Bool)=>Ext.of (.exit 8) [(6,.ptr 6 0 0),(7,.i 0),(8,.ptr 8 0 0),(9,.ref 600161 0 e965.length),(15,.i l968.2),(16,.bool e978)] [(6,⟨4,true,[[.bool false,.nilsl,.nilsl,.nilsl]]⟩),(8,⟨4,true,[[.bool p2,.sl false 8 (List.map Q0.c p0),.sl false 8 (List.map Q0.c p1),.ref 600167 0 l968.1.length]]⟩)] [BT.of 600161 Q2 4 e965 true,BT.of 600167 Q2 4 l968.1 true] (by rfl))
       (fun e978=>
        .cnd 30 [132]
        (.br 30004 (!e978)
         (.done (decide ((l968.1.length:Int) < 36)))
         (.done false))
        (fun(c979:Bool)=>[.bool c979]) fun c979=>
        .br 0 c979
        (.chk 31005 (decide (0≤l968.2)&&decide (l968.2 < (e965.length:Int))) (.row 31006 Q2 e965 (0+l968.2.toNat) true fun x980=>
         .app 31008 Q2 l968.1 [x980] 32 false (by intro h;cases h) (.gh 0 (.drop [600167]) (.gh 0 (.ren 140 600167) (.done (.inl ((l968.1++[x980]),(Q7 (l968.2+1)))))))))
        (.done (.inl (l968.1,(Q7 (l968.2+1)))))))
      (.done (.inr l968.1)))
     ([],0))
    (fun(e981:(List Q9))=>Ext.of (.exit 6) [(6,.ptr 6 0 0),(7,.i 0),(8,.ptr 8 0 0)] [(6,⟨4,true,[[.bool false,.nilsl,.nilsl,.nilsl]]⟩),(8,⟨4,true,[[.bool p2,.sl false 8 (List.map Q0.c p0),.sl false 8 (List.map Q0.c p1),.ref 600167 0 e981.length]]⟩)] [BT.of 600167 Q2 4 e981 true] (by rfl))
    (fun e981=>
     .bind 1
     (.lp (fun(l1001:(List Q9)×Int)=>Ext.of .normal [(6,.ptr 6 0 0),(7,.i 0),(8,.ptr 8 0 0),(18,.i l1001.2)] [(6,⟨4,true,[[.bool false,.nilsl,.nilsl,.nilsl]]⟩),(8,⟨4,true,[[.bool p2,.sl false 8 (List.map Q0.c p0),.sl false 8 (List.map Q0.c p1),.ref 600167 0 l1001.1.length]]⟩)] [BT.of 600167 Q2 4 l1001.1 true] (by rfl))
      (fun l1001=>
       .br 0 (decide (l1001.2 < (l1001.1.length:Int)))
       (.chk 35006 (decide (0≤l1001.2)&&decide (l1001.2 < (l1001.1.length:Int))) (.row 35008 Q2 l1001.1 (0+l1001.2.toNat) true fun x1002=>
        .row 35009 Q0 p0 x1002.fLocal.toNat (decide (0≤x1002.fLocal)) fun x1003=>
        .bind 1
        (.lp (fun(l1011:Bool×Int)=>Ext.of .normal [(6,.ptr 6 0 0),(7,.i 0),(8,.ptr 8 0 0),(18,.i l1001.2),(19,.i x1003.fComponent),(20,.bool l1011.1),(21,.i l1011.2)] [(6,⟨4,true,[[.bool false,.nilsl,.nilsl,.nilsl]]⟩),(8,⟨4,true,[[.bool p2,.sl false 8 (List.map Q0.c p0),.sl false 8 (List.map Q0.c p1),.ref 600167 0 l1001.1.length]]⟩)] [BT.of 600167 Q2 4 l1001.1 true] (by rfl))
         (fun l1011=>
          .br 0 (decide (l1011.2 < (l1001.1.length:Int)))
          (.chk 40006 (decide (0≤l1011.2)&&decide (l1011.2 < (l1001.1.length:Int))) (.row 40008 Q2 l1001.1 (0+l1011.2.toNat) true fun x1012=>
           .row 40009 Q0 p0 x1012.fLocal.toNat (decide (0≤x1012.fLocal)) fun x1013=>
           .cnd 41 [204]
           (.chk 41005 (decide (0≤l1001.2)&&decide (l1001.2 < (l1001.1.length:Int))) (.row 41006 Q2 l1001.1 (0+l1001.2.toNat) true fun x1014=>
            .chk 41010 (decide (0≤l1011.2)&&decide (l1011.2 < (l1001.1.length:Int))) (.row 41011 Q2 l1001.1 (0+l1011.2.toNat) true fun x1015=>
            .view 41012 (s192 (Y8.mk p2 p0 p1 l1001.1) x1014 x1015) [(VwW.of 600167 Q2 l1001.1)] fun r1016=>
            .br 41014 r1016
            (.br 41018 (decide (x1013.fComponent < x1003.fComponent))
             (.done true)
             (.br 41022 (x1013.fComponent==x1003.fComponent)
              (.done (decide (l1011.2 < l1001.2)))
              (.done false)))
            (.done false))))
           (fun(c1017:Bool)=>[.bool c1017]) fun c1017=>
           .br 0 c1017
           (.done (.inl (false,(Q7 (l1011.2+1)))))
           (.done (.inl (l1011.1,(Q7 (l1011.2+1)))))))
          (.done (.inr l1011.1)))
         (true,0))
        (fun(e1018:Bool)=>Ext.of (.exit 12) [(6,.ptr 6 0 0),(7,.i 0),(8,.ptr 8 0 0),(18,.i l1001.2),(20,.bool e1018)] [(6,⟨4,true,[[.bool false,.nilsl,.nilsl,.nilsl]]⟩),(8,⟨4,true,[[.bool p2,.sl false 8 (List.map Q0.c p0),.sl false 8 (List.map Q0.c p1),.ref 600167 0 l1001.1.length]]⟩)] [BT.of 600167 Q2 4 l1001.1 true] (by rfl))
        (fun e1018=>
         .br 0 e1018
         (.chk 44004 (decide (0≤l1001.2)&&decide (l1001.2 < (l1001.1.length:Int))) (.row 44006 Q2 l1001.1 (0+l1001.2.toNat) true fun x1019=>
          .re 44006 (ReW.put 600167 4 Q2 l1001.1 (0+l1001.2.toNat) (Q9.mk x1019.fLocal x1019.fRemote x1019.fPriority 1)) (.gh 36 (.len 600167 ((l1001.1.set (0+l1001.2.toNat) (Q9.mk x1019.fLocal x1019.fRemote x1019.fPriority 1)).length) [l1001.1.length] (by simp)) (.done (.inl ((l1001.1.set (0+l1001.2.toNat) (Q9.mk x1019.fLocal x1019.fRemote x1019.fPriority 1)),(Q7 (l1001.2+1))))))))
         (.done (.inl (l1001.1,(Q7 (l1001.2+1))))))))
       (.done (.inr l1001.1)))
      (e981,0))
     (fun(e1020:(List Q9))=>Ext.of (.exit 10) [(6,.ptr 6 0 0),(7,.i 0),(8,.ptr 8 0 0)] [(6,⟨4,true,[[.bool false,.nilsl,.nilsl,.nilsl]]⟩),(8,⟨4,true,[[.bool p2,.sl false 8 (List.map Q0.c p0),.sl false 8 (List.map Q0.c p1),.ref 600167 0 e1020.length]]⟩)] [BT.of 600167 Q2 4 e1020 true] (by rfl))
     (fun e1020=>
      .gh 0 (.share (VwW.of 600167 Q2 e1020) 1) (.done ((Y8.mk p2 p0 p1 e1020),0)))))))))
noncomputable def s116 (p0 p1:List Q3) (p2:Bool):EV.Spec Tryz.prog GG (Y8×Int):=.ofFn 116 Q8 Tryz.func116 (show FnD Tryz.prog GG [0,1,2,6,7,8,9,10,11,12,13,14,15,16,17,18,19,20,21,22,30,39,48,54,68,85,104,109,132,146,164,204,205] Tryz.f116 [.sl false 8 (List.map Q0.c p0),.sl false 8 (List.map Q0.c p1),.bool p2] (g116 p0 p1 p2) (fun r=>.tup [.agg [.bool r.1.fControlling,.sl false 8 (List.map Q0.c r.1.fLocals),.sl false 8 (List.map Q0.c r.1.fRemotes),.sl false 4 (List.map Q2.c r.1.fPairs)],.i r.2]) by unfold FnD;kernel_rfl)
noncomputable def g117 (p0:List Q3):TT (Bool):=
 .bind2 1
 (.lp (fun(l1024:Int)=>Ext.lit .normal [(0,.sl false 8 (List.map Q0.c p0)),(2,.bool false),(3,.i l1024)] [])
  (fun l1024=>
   .br 0 (decide (l1024 < (Y5 Q0 p0)))
   (.row 4003 Q0 p0 l1024.toNat (decide (0≤l1024)) fun x1025=>
    .br 0 (x1025.fComponent != 1)
    (.done (.inr (.inl ())))
    (.done (.inl (Q7 (l1024+1)))))
   (.done (.inr (.inr ()))))
  0)
 (fun(e1026:Unit)=>Ext.lit .ret [(2,.bool false)] [])
 (fun(e1027:Unit)=>Ext.lit (.exit 0) [(2,.bool false)] [])
 (fun e1026=>
  .done false)
 (fun e1027=>
  .done true)
noncomputable def s117 (p0:List Q3):EV.Spec Tryz.prog GG (Bool):=.ofFn 117 Q8 Tryz.func117 (show FnD Tryz.prog GG [0,2,3,7,15] Tryz.f117 [.sl false 8 (List.map Q0.c p0)] (g117 p0) (fun r=>.bool r) by unfold FnD;kernel_rfl)
noncomputable def g56 (p0 p1:List Q3) (p2:Bool) (p3 p4:Int):TT (Y7×Int):=
 .call 1004 (s116 p0 p1 p2) [] [] fun r1021=>
 .br 0 (r1021.2 != 0)
 (.done ((Y7.mk (Y8.mk false [] [] []) 0 0 0 0 0 [] [] []),r1021.2))
 (.cnd 4 [48]
  (.call 4002 (s117 p0) [] [] fun r1028=>
   .br 4005 (!r1028)
   (.done true)
   (.call 4006 (s117 p1) [] [] fun r1029=>
    .br 4010 (!r1029)
    (.done true)
    (.br 4014 (decide (p3 < 0))
     (.done true)
     (.br 4018 (decide ((281474976710656:Int)≤p3))
      (.done true)
      (.br 4022 (decide (p4 < 0))
       (.done true)
       (.done (decide ((1099511627776:Int) < p4))))))))
  (fun(c1030:Bool)=>[.bool c1030]) fun c1030=>
  .br 0 c1030
  (.done ((Y7.mk (Y8.mk false [] [] []) 0 0 0 0 0 [] [] []),2))
  (.opr 6008 (Rule.makeD (ty:=Z0) (t:=32) (e:=4) (zv:=.bool false) (zc:=.bool false) false (.tmp 56) (.tmp 56) 57 (Y5 Q2 r1021.1.fPairs) (Y5 Q2 r1021.1.fPairs) 1 (by kernel_rfl) (by kernel_rfl) (by kernel_rfl) rfl ⟨rfl,rfl,rfl⟩ (fun _ _=>by constructor)) fun _=>
   .gh 0 (.len 57 ((List.replicate (Y5 Q2 r1021.1.fPairs).toNat false).length) [(Y5 Q2 r1021.1.fPairs).toNat] (by simp)) (.gh 0 (.share (VwW.of 57 Z0 (List.replicate (Y5 Q2 r1021.1.fPairs).toNat false)) 0) (.done ((Y7.mk r1021.1 p3 p4 p4 0 (-1) [] (List.replicate (Y5 Q2 r1021.1.fPairs).toNat false) []),0)))))
noncomputable def s56 (p0 p1:List Q3) (p2:Bool) (p3 p4:Int):EV.Spec Tryz.prog GG (Y7×Int):=.ofFn 56 Q8 Tryz.func56 (show FnD Tryz.prog GG [0,1,2,3,4,10,11,12,13,22,48] Tryz.f56 [.sl false 8 (List.map Q0.c p0),.sl false 8 (List.map Q0.c p1),.bool p2,.i p3,.i p4] (g56 p0 p1 p2 p3 p4) (fun r=>.tup [.agg [.bool r.1.fList.fControlling,.sl false 8 (List.map Q0.c r.1.fList.fLocals),.sl false 8 (List.map Q0.c r.1.fList.fRemotes),.sl false 4 (List.map Q2.c r.1.fList.fPairs),.i r.1.fTie,.i r.1.fNow,.i r.1.fNext,.i r.1.fSerial,.i r.1.fChosen,.sl false 1 (List.map Z1.c r.1.fQueue),.sl false 1 (List.map Z0.c r.1.fNamed),.sl false 6 (List.map Q5.c r.1.fChecks)],.i r.2]) by unfold FnD;kernel_rfl)
noncomputable def g18 (p0:SDraft1):TT (Y7):=
 .call 1003 (s10 p0.fLocals 6) [] [] fun r898=>
 .call 1006 (s10 p0.fRemotes 6) [] [] fun r899=>
 .call 1013 (s56 r898 r899 p0.fControlling (Q7 (Int.tmod p0.fTie 16)) 0) [] [] fun r1031=>
 .done r1031.1
noncomputable def s18 (p0:SDraft1):EV.Spec Tryz.prog GG (Y7):=.ofFn 18 Q8 Tryz.func18 (show FnD Tryz.prog GG [0,1,2,3] Tryz.f18 [.agg [.sl false 6 (List.map E7.c p0.fLocals),.sl false 6 (List.map E7.c p0.fRemotes),.bool p0.fControlling,.int .u8 p0.fTie,.sl false 8 (List.map R7.c p0.fEvents)]] (g18 p0) (fun r=>.agg [.bool r.fList.fControlling,.sl false 8 (List.map Q0.c r.fList.fLocals),.sl false 8 (List.map Q0.c r.fList.fRemotes),.sl false 4 (List.map Q2.c r.fList.fPairs),.i r.fTie,.i r.fNow,.i r.fNext,.i r.fSerial,.i r.fChosen,.sl false 1 (List.map Z1.c r.fQueue),.sl false 1 (List.map Z0.c r.fNamed),.sl false 6 (List.map Q5.c r.fChecks)]) by unfold FnD;kernel_rfl)
noncomputable def g46 (p0:Y7) (p1:Int):TT (Z2):=
 .cnd 1 [13]
 (.br 1007 ((Y5 Q0 p0.fList.fLocals)==0)
  (.done true)
  (.done (p1==255)))
 (fun(c1034:Bool)=>[.bool c1034]) fun c1034=>
 .br 0 c1034
 (.call 2002 (s45 p1) [] [] fun r1035=>
  .done r1035)
 (.chk 3010 (!((Y5 Q0 p0.fList.fLocals)==0)) (.row 3011 Q0 p0.fList.fLocals ((Int.tmod (Q7 p1) (Y5 Q0 p0.fList.fLocals)).toNat) (decide (0≤(Int.tmod (Q7 p1) (Y5 Q0 p0.fList.fLocals)))) fun x1036=>
  .done x1036.fBase))
noncomputable def s46 (p0:Y7) (p1:Int):EV.Spec Tryz.prog GG (Z2):=.ofFn 46 Q8 Tryz.func46 (show FnD Tryz.prog GG [0,1,2,4,13] Tryz.f46 [.agg [.bool p0.fList.fControlling,.sl false 8 (List.map Q0.c p0.fList.fLocals),.sl false 8 (List.map Q0.c p0.fList.fRemotes),.sl false 4 (List.map Q2.c p0.fList.fPairs),.i p0.fTie,.i p0.fNow,.i p0.fNext,.i p0.fSerial,.i p0.fChosen,.sl false 1 (List.map Z1.c p0.fQueue),.sl false 1 (List.map Z0.c p0.fNamed),.sl false 6 (List.map Q5.c p0.fChecks)],.int .u8 p1] (g46 p0 p1) (fun r=>.agg [.str r.fHost,.i r.fPort]) by unfold FnD;kernel_rfl)
noncomputable def s47 (p0:Y7) (p1:Int):EV.Spec Tryz.prog GG (Z2×Z2):=.ofFn 47 Q8 Tryz.func47 (show FnD Tryz.prog GG [0,1,2,4,5,6] Tryz.f47 [.agg [.bool p0.fList.fControlling,.sl false 8 (List.map Q0.c p0.fList.fLocals),.sl false 8 (List.map Q0.c p0.fList.fRemotes),.sl false 4 (List.map Q2.c p0.fList.fPairs),.i p0.fTie,.i p0.fNow,.i p0.fNext,.i p0.fSerial,.i p0.fChosen,.sl false 1 (List.map Z1.c p0.fQueue),.sl false 1 (List.map Z0.c p0.fNamed),.sl false 6 (List.map Q5.c p0.fChecks)],.i p1] (
 .row 1005 Q2 p0.fList.fPairs p1.toNat (decide (0≤p1)) fun x1040=>
 .row 2006 Q0 p0.fList.fLocals x1040.fLocal.toNat (decide (0≤x1040.fLocal)) fun x1041=>
 .row 2014 Q0 p0.fList.fRemotes x1040.fRemote.toNat (decide (0≤x1040.fRemote)) fun x1042=>
 .done (x1041.fBase,x1042.fAddr):TT (Z2×Z2)) (fun r=>.tup [.agg [.str r.1.fHost,.int .i64 r.1.fPort],.agg [.str r.2.fHost,.int .i64 r.2.fPort]]) by unfold FnD;kernel_rfl)
noncomputable def g16 (p0:R0) (p1:Y7):TT (U5):=
 .call 1004 (s45 (Int.tmod p0.fFrom 7)) [] [] fun r1033=>
 .call 1008 (s46 p1 p0.fTo) [] [] fun r1037=>
 .cnd 5 [65]
 (.br 5006 (decide ((Int.tmod p0.fWhat 5) < 2))
  (.done (decide ((0:Int) < (Y5 Q5 p1.fChecks))))
  (.done false))
 (fun(c1038:Bool)=>[.bool c1038]) fun c1038=>
 .br 0 c1038
 (.chk 6009 (!((Y5 Q5 p1.fChecks)==0)) (.row 6010 Q5 p1.fChecks ((Int.tmod (Q7 p0.fId) (Y5 Q5 p1.fChecks)).toNat) (decide (0≤(Int.tmod (Q7 p0.fId) (Y5 Q5 p1.fChecks)))) fun x1039=>
  .call 7004 (s47 p1 x1039.fPair) [] [] fun r1040=>
  .bind 0
  (.br 0 ((Int.tmod p0.fFrom 4)==3)
   (.call 10004 (s45 (Int.tmod p0.fTo 7)) [] [] fun r1041=>
    .done (r1041.fHost,r1041.fPort))
   (.done (r1040.1.fHost,r1040.1.fPort)))
  (fun(e1042:ByteArray×Int)=>Ext.lit .normal [(2,.ptr 2 0 0),(4,.ptr 4 0 0),(5,.ptr 5 0 0),(6,.ptr 6 0 0)] [(2,⟨8,true,[(R7.c p0)]⟩),(4,⟨12,true,[[.str ByteArray.empty,.i 0,.str ByteArray.empty,.i 0,.i 0,.i 0,.i 0,.bool false,.i 0,.bool false,.str ByteArray.empty,.i 0]]⟩),(5,⟨12,true,[[.str r1040.2.fHost,.i r1040.2.fPort,.str r1040.1.fHost,.i r1040.1.fPort,.i 2,.i x1039.fId,.i 0,.bool false,.i 0,.bool false,.str e1042.1,.i e1042.2]]⟩),(6,⟨6,true,[(Q5.c x1039)]⟩)])
  (fun e1042=>
   .cnd 11 [120]
   (.br 11006 ((Int.tmod p0.fWhat 5)==1)
    (.done ((Int.tmod p0.fTie 2)==1))
    (.done false))
   (fun(c1043:Bool)=>[.bool c1043]) fun c1043=>
   .br 0 c1043
   (.done (U5.mk r1040.2 r1040.1 (Y6.mk 3 x1039.fId 0 false 0 false (Z2.mk ByteArray.empty 0))))
   (.done (U5.mk r1040.2 r1040.1 (Y6.mk 2 x1039.fId 0 false 0 false (Z2.mk e1042.1 e1042.2)))))))
 (.br 0 ((Int.tmod p0.fWhat 5)==2)
  (.call 14007 (s45 (Int.tmod p0.fFrom 7)) [] [] fun r1044=>
   .done (U5.mk r1033 r1037 (Y6.mk 2 (Q7 p0.fId) 0 false 0 false r1044)))
  (.cnd 2 [28]
   (.br 2006 ((Int.tmod p0.fWhat 5)==3)
    (.done (decide ((0:Int) < (Y5 Q0 p1.fList.fRemotes))))
    (.done false))
   (fun(c1045:Bool)=>[.bool c1045]) fun c1045=>
   .bind 0
   (.br 0 c1045
    (.chk 3011 (!((Y5 Q0 p1.fList.fRemotes)==0)) (.row 3012 Q0 p1.fList.fRemotes ((Int.tmod (Q7 p0.fFrom) (Y5 Q0 p1.fList.fRemotes)).toNat) (decide (0≤(Int.tmod (Q7 p0.fFrom) (Y5 Q0 p1.fList.fRemotes)))) fun x1046=>
     .done (x1046.fAddr.fHost,x1046.fAddr.fPort)))
    (.done (r1033.fHost,r1033.fPort)))
   (fun(e1047:ByteArray×Int)=>Ext.lit .normal [(2,.ptr 2 0 0),(4,.ptr 4 0 0),(5,.ptr 5 0 0)] [(2,⟨8,true,[(R7.c p0)]⟩),(4,⟨12,true,[[.str ByteArray.empty,.i 0,.str ByteArray.empty,.i 0,.i 0,.i 0,.i 0,.bool false,.i 0,.bool false,.str ByteArray.empty,.i 0]]⟩),(5,⟨12,true,[[.str e1047.1,.i e1047.2,.str r1037.fHost,.i r1037.fPort,.i 0,.i 0,.i 0,.bool false,.i 0,.bool false,.str ByteArray.empty,.i 0]]⟩)])
   (fun e1047=>
    .br 4017 p0.fUse
    (.done (U5.mk (Z2.mk e1047.1 e1047.2) r1037 (Y6.mk 1 (Q7 p0.fId) (Q7 ((1:Int)+(Q7 p0.fTie))) p0.fControlling (Q7 (Int.tmod p0.fTie 16)) p0.fControlling (Z2.mk ByteArray.empty 0))))
    (.done (U5.mk (Z2.mk e1047.1 e1047.2) r1037 (Y6.mk 1 (Q7 p0.fId) (Q7 ((1:Int)+(Q7 p0.fTie))) p0.fControlling (Q7 (Int.tmod p0.fTie 16)) false (Z2.mk ByteArray.empty 0)))))))
noncomputable def s16 (p0:R0) (p1:Y7):EV.Spec Tryz.prog GG (U5):=.ofFn 16 Q8 Tryz.func16 (show FnD Tryz.prog GG [0,1,2,3,4,5,6,7,8,28,65,104,120,125] Tryz.f16 [.agg (R7.c p0),.agg [.bool p1.fList.fControlling,.sl false 8 (List.map Q0.c p1.fList.fLocals),.sl false 8 (List.map Q0.c p1.fList.fRemotes),.sl false 4 (List.map Q2.c p1.fList.fPairs),.i p1.fTie,.i p1.fNow,.i p1.fNext,.i p1.fSerial,.i p1.fChosen,.sl false 1 (List.map Z1.c p1.fQueue),.sl false 1 (List.map Z0.c p1.fNamed),.sl false 6 (List.map Q5.c p1.fChecks)]] (g16 p0 p1) (fun r=>.agg (Y2.c r)) by unfold FnD;kernel_rfl)
noncomputable def g5 (p0:SDraft1) (p1:S2Tannoyref11Event) (p2:ByteArray):TT (Bool):=
 .call 1001 s8 [] [] fun r888=>
 .br 0 (!r888)
 (.done false)
 (.chk 3005 (decide (0≤(if (20:Int) < (p2.size:Int) then (20:Int) else (p2.size:Int)))&&decide ((if (20:Int) < (p2.size:Int) then (20:Int) else (p2.size:Int))≤(p2.size:Int))) (.call 4002 (s18 p0) [] [] fun r1032=>
  .call 5004 (s16 p1.a0 r1032) [] [] fun r1048=>
  .call 5009 (s16 p1.a1 r1032) [] [] fun r1049=>
  .call 6003 (s19 r1048.fProbe (p2.extract 0 ((if (20:Int) < (p2.size:Int) then (20:Int) else (p2.size:Int)).toNat))) [] [] fun r1050=>
  .call 7003 (s19 r1049.fProbe (p2.extract 0 ((if (20:Int) < (p2.size:Int) then (20:Int) else (p2.size:Int)).toNat))) [] [] fun r1051=>
  .call 8003 (s20 r1050.1 (p2.extract 0 ((if (20:Int) < (p2.size:Int) then (20:Int) else (p2.size:Int)).toNat))) [] [] fun r1052=>
  .call 9003 (s20 r1051.1 (p2.extract 0 ((if (20:Int) < (p2.size:Int) then (20:Int) else (p2.size:Int)).toNat))) [] [] fun r1053=>
  .cnd 10 [6]
  (.br 10004 (r1050.2==0)
   (.br 10008 (r1051.2==0)
    (.br 10012 (r1052.2==0)
     (.br 10016 (r1053.2==0)
      (.br 10021 ((r1052.1.fKind==r1048.fProbe.fKind)&&((r1052.1.fId==r1048.fProbe.fId)&&((r1052.1.fPriority==r1048.fProbe.fPriority)&&((r1052.1.fControlling==r1048.fProbe.fControlling)&&((r1052.1.fTie==r1048.fProbe.fTie)&&((r1052.1.fUse==r1048.fProbe.fUse)&&((decide (r1052.1.fSeen.fHost=r1048.fProbe.fSeen.fHost))&&((r1052.1.fSeen.fPort==r1048.fProbe.fSeen.fPort)&&true))))))))
       (.br 10026 ((r1053.1.fKind==r1049.fProbe.fKind)&&((r1053.1.fId==r1049.fProbe.fId)&&((r1053.1.fPriority==r1049.fProbe.fPriority)&&((r1053.1.fControlling==r1049.fProbe.fControlling)&&((r1053.1.fTie==r1049.fProbe.fTie)&&((r1053.1.fUse==r1049.fProbe.fUse)&&((decide (r1053.1.fSeen.fHost=r1049.fProbe.fSeen.fHost))&&((r1053.1.fSeen.fPort==r1049.fProbe.fSeen.fPort)&&true))))))))
        (.done ((decide (r1050.1=r1051.1))==((r1048.fProbe.fKind==r1049.fProbe.fKind)&&((r1048.fProbe.fId==r1049.fProbe.fId)&&((r1048.fProbe.fPriority==r1049.fProbe.fPriority)&&((r1048.fProbe.fControlling==r1049.fProbe.fControlling)&&((r1048.fProbe.fTie==r1049.fProbe.fTie)&&((r1048.fProbe.fUse==r1049.fProbe.fUse)&&((decide (r1048.fProbe.fSeen.fHost=r1049.fProbe.fSeen.fHost))&&((r1048.fProbe.fSeen.fPort==r1049.fProbe.fSeen.fPort)&&true))))))))))
        (.done false))
       (.done false))
      (.done false))
     (.done false))
    (.done false))
   (.done false))
  (fun(c1054:Bool)=>[.bool c1054]) fun c1054=>
  .done c1054))
theorem k5 (p0:SDraft1) (p1:S2Tannoyref11Event) (p2:ByteArray):FnD Tryz.prog GG [0,1,2,3,4,6,7,8,9,10,11,12,13,14,15,16,17,19] Tryz.f5 [.agg [.sl false 6 (List.map E7.c p0.fLocals),.sl false 6 (List.map E7.c p0.fRemotes),.bool p0.fControlling,.int .u8 p0.fTie,.sl false 8 (List.map R7.c p0.fEvents)],.agg [.int .u8 p1.a0.fWhat,.int .u8 p1.a0.fFrom,.int .u8 p1.a0.fTo,.int .u8 p1.a0.fId,.int .u16 p1.a0.fAfter,.int .u8 p1.a0.fTie,.bool p1.a0.fControlling,.bool p1.a0.fUse,.int .u8 p1.a1.fWhat,.int .u8 p1.a1.fFrom,.int .u8 p1.a1.fTo,.int .u8 p1.a1.fId,.int .u16 p1.a1.fAfter,.int .u8 p1.a1.fTie,.bool p1.a1.fControlling,.bool p1.a1.fUse],.str p2] (g5 p0 p1 p2) (fun r=>.bool r):=by unfold FnD;kernel_rfl
noncomputable def s5 (p0:SDraft1) (p1:S2Tannoyref11Event) (p2:ByteArray):EV.Spec Tryz.prog GG (Bool):=.ofFn 5 Q8 Tryz.func5 (k5 p0 p1 p2)
end Go.Proofs.YtjpahkpfkohfkaaGreatDoor
namespace Go.Proofs.YtjpahkpfkohfkaaGreatDoor
open Go Go.EV
set_option maxRecDepth 100000
theorem eA_iff {a b:Z2}:(decide (a.fHost=b.fHost)&&((a.fPort==b.fPort)&&true))=true↔a=b:=by
 cases a;cases b;simp
def B7 (a:Z2):Prop:=((a.fHost.size:Int)=4∨(a.fHost.size:Int)=16)∧1≤a.fPort∧a.fPort≤65535
theorem okRUSABLE (a:Z2):SOk (s137 a) (fun b=>(b=true↔B7 a)):=by
 show Ok (g137 a) _
 unfold g137
 refine Ok.cnd (R:=fun c=>(c=true↔B7 a)) ?_ fun c hc=>Ok.done hc
 refine Ok.call (R:=fun c=>(c=true↔((a.fHost.size:Int)=4∨(a.fHost.size:Int)=16)∧0≤a.fPort∧a.fPort≤65535)) ?_ fun c hc=>?_
 ·show Ok (g213 a) _
  unfold g213
  refine Ok.cnd (R:=fun c=>(c=true↔((a.fHost.size:Int)=4∨(a.fHost.size:Int)=16)∧0≤a.fPort∧a.fPort≤65535)) ?_ fun c hc=>Ok.done hc
  refine Ok.call (R:=fun c=>(c=true↔((a.fHost.size:Int)=4∨(a.fHost.size:Int)=16))) ?_ fun c hc=>?_
  ·show Ok (g250 a.fHost) _
   unfold g250
   refine Ok.cnd (R:=fun c=>(c=true↔((a.fHost.size:Int)=4∨(a.fHost.size:Int)=16))) ?_ fun c hc=>Ok.done hc
   refine Ok.br (fun h1=>Ok.done ?_) (fun h1=>Ok.done ?_)
   ·simp at h1 ⊢;exact .inl h1
   ·simp at h1 ⊢;omega
  ·refine Ok.br (fun h1=>Ok.br (fun h2=>Ok.done ?_) (fun h2=>Ok.done ?_)) (fun h1=>Ok.done ?_)
   ·rw[hc] at h1;simp at h2 ⊢;omega
   ·simp at h2 ⊢;omega
   ·subst h1;simp at hc ⊢;omega
 ·unfold B7
  refine Ok.br (fun h1=>Ok.done ?_) (fun h1=>Ok.done ?_)
  ·rw[hc] at h1;simp;omega
  ·subst h1;simp at hc ⊢;omega
def HexD (x:Int):Prop:=(48≤x∧x≤57)∨(97≤x∧x≤102)∨x=45
theorem bAt_lt (s:ByteArray) (i:Int):0≤bAt s i∧bAt s i < 256:=by
 unfold bAt
 refine⟨by omega,?_⟩
 have:=UInt8.toNat_lt (s.data.getD i.toNat 0)
 omega
def AllHex (s:ByteArray):Prop:=∀i:Nat,i < s.size→HexD (bAt s i)
def CandOk (c:Q3):Prop:=
 (1≤c.fKind∧c.fKind≤4)∧(1≤c.fComponent∧c.fComponent≤256)∧(1≤c.fPriority∧c.fPriority≤2147483647)∧(1≤(c.fFoundation.size:Int)∧(c.fFoundation.size:Int)≤80)∧
 AllHex c.fFoundation∧B7 c.fAddr∧B7 c.fBase∧(c.fAddr.fHost.size:Int)=(c.fBase.fHost.size:Int)∧(c.fAddr=c.fBase∨c.fKind=2∨c.fKind=3)
theorem okRCAND (c:Q3):SOk (s152 c) (fun b=>(b=true↔CandOk c)):=by
 show Ok (g152 c) _
 unfold g152 CandOk
 refine Ok.cnd (R:=fun b=>(b=true↔¬((1≤c.fKind∧c.fKind≤4)∧(1≤c.fComponent∧c.fComponent≤256)∧(1≤c.fPriority∧c.fPriority≤2147483647)∧(1≤(c.fFoundation.size:Int)∧(c.fFoundation.size:Int)≤80)))) ?_ fun b hb=>?_
 ·refine Ok.br (fun h1=>Ok.done ?_) (fun h1=>Ok.br (fun h2=>Ok.done ?_) (fun h2=>Ok.br (fun h3=>Ok.done ?_) (fun h3=>Ok.br (fun h4=>Ok.done ?_) (fun h4=>Ok.br (fun h5=>Ok.done ?_) (fun h5=>Ok.br (fun h6=>Ok.done ?_) (fun h6=>Ok.br (fun h7=>Ok.done ?_) (fun h7=>Ok.done ?_)))))))
  all_goals (simp at *;omega)
 ·refine Ok.br (fun h1=>Ok.done ?_) (fun h1=>?_)
  ·have:=hb.1 h1
   exact⟨fun h=>by simp at h,fun h=>absurd ⟨h.1,h.2.1,h.2.2.1,h.2.2.2.1⟩ this⟩
  ·have hb':(1≤c.fKind∧c.fKind≤4)∧(1≤c.fComponent∧c.fComponent≤256)∧(1≤c.fPriority∧c.fPriority≤2147483647)∧(1≤(c.fFoundation.size:Int)∧(c.fFoundation.size:Int)≤80):=
    Classical.byContradiction fun hn=>by rw[hb.2 hn] at h1;simp at h1
   refine Ok.bind2 (R:=fun e=>match e with|.inl _=>¬AllHex c.fFoundation|.inr _=>AllHex c.fFoundation) ?_ (fun e he=>Ok.done ?_) (fun e he=>?_)
   ·refine Ok.scan c.fFoundation.size (by omega) (fun k y=>y=(k:Int)∧∀i:Nat,i < k→HexD (bAt c.fFoundation i)) ⟨rfl,fun i h=>by omega⟩ (fun k y hy hk=>?_) (fun y hy=>?_)
    ·obtain⟨rfl,hd⟩:=hy
     refine Ok.br (fun hc=>?_) (fun hc=>by simp at hc;omega)
     refine Ok.chk (by simp;omega) ?_
     generalize hx:bAt c.fFoundation (k:Int)=x
     refine Ok.cnd (R:=fun b=>(b=true↔¬HexD x)) ?_ fun b2 hb2=>?_
     ·unfold HexD
      refine Ok.br (fun p1=>Ok.br (fun p2=>Ok.br (fun p3=>Ok.br (fun p4=>Ok.done ?_) (fun p4=>Ok.done ?_)) (fun p3=>Ok.done ?_)) (fun p2=>Ok.done ?_)) (fun p1=>Ok.br (fun p3=>Ok.br (fun p4=>Ok.done ?_) (fun p4=>Ok.done ?_)) (fun p3=>Ok.done ?_))
      all_goals (simp at *;omega)
     ·refine Ok.br (fun p1=>Ok.done ?_) (fun p1=>Ok.done ?_)
      ·show ¬AllHex _
       intro h
       exact hb2.1 p1 (by rw[←hx];exact h k hk)
      ·refine⟨U1 hk (by omega),fun i hi=>?_⟩
       by_cases h4:i=k
       ·rw[h4,hx];exact Classical.byContradiction fun hn=>by rw[hb2.2 hn] at p1;simp at p1
       ·exact hd i (by omega)
    ·obtain⟨rfl,hd⟩:=hy
     refine Ok.br (fun hc=>by simp at hc) (fun hc=>Ok.done ?_)
     exact fun i hi=>hd i hi
   ·exact⟨fun h=>by simp at h,fun h=>absurd h.2.2.2.2.1 he⟩
   ·have he:AllHex c.fFoundation:=he
    refine Ok.cnd (R:=fun b=>(b=true↔¬(B7 c.fAddr∧B7 c.fBase∧(c.fAddr.fHost.size:Int)=(c.fBase.fHost.size:Int)))) ?_ fun b2 hb2=>?_
    ·refine Ok.call (okRUSABLE _) fun r2 h2=>Ok.br (fun k2=>Ok.done ?_) (fun k2=>Ok.call (okRUSABLE _) fun r3 h3=>Ok.br (fun k3=>Ok.done ?_) (fun k3=>Ok.done ?_))
     ·simp only[Bool.not_eq_true'] at k2;subst k2
      exact⟨fun _ h=>by have:=h2.2 h.1;simp at this,fun _=>rfl⟩
     ·simp only[Bool.not_eq_true'] at k3;subst k3
      exact⟨fun _ h=>by have:=h3.2 h.2.1;simp at this,fun _=>rfl⟩
     ·simp only[Bool.not_eq_false'] at k2 k3
      have e2:=h2.1 k2;have e3:=h3.1 k3
      simp only[bne_iff_ne]
      exact⟨fun h h'=>h h'.2.2,fun h h'=>h ⟨e2,e3,h'⟩⟩
    ·refine Ok.br (fun h2=>Ok.done ?_) (fun h2=>?_)
     ·have:=hb2.1 h2
      exact⟨fun h=>by simp at h,fun h=>absurd ⟨h.2.2.2.2.2.1,h.2.2.2.2.2.2.1,h.2.2.2.2.2.2.2.1⟩ this⟩
     ·have hb3:B7 c.fAddr∧B7 c.fBase∧(c.fAddr.fHost.size:Int)=(c.fBase.fHost.size:Int):=
       Classical.byContradiction fun hn=>by rw[hb2.2 hn] at h2;simp at h2
      refine Ok.cnd (R:=fun b=>(b=true↔(c.fAddr=c.fBase∨c.fKind=2∨c.fKind=3))) ?_ fun b4 hb4=>Ok.done ?_
      ·have hk:=hb'.1
       refine Ok.br (fun k1=>Ok.done ?_) (fun k1=>Ok.br (fun k2=>Ok.done ?_) (fun k2=>Ok.done ?_))
       ·exact⟨fun _=>.inl (eA_iff.1 k1),fun _=>rfl⟩
       ·have hne:c.fAddr≠c.fBase:=fun e=>by rw[eA_iff.2 e] at k1;simp at k1
        simp only[bne_iff_ne] at k2 ⊢
        exact⟨fun h=>.inr (by omega),fun h=>by rcases h with h|h;exact absurd h hne;omega⟩
       ·have hne:c.fAddr≠c.fBase:=fun e=>by rw[eA_iff.2 e] at k1;simp at k1
        simp only[bne_eq_false_iff_eq] at k2
        exact⟨fun h=>by simp at h,fun h=>by rcases h with h|h;exact absurd h hne;omega⟩
      ·rw[hb4]
       exact⟨fun h=>⟨hb'.1,hb'.2.1,hb'.2.2.1,hb'.2.2.2,he,hb3.1,hb3.2.1,hb3.2.2,h⟩,fun h=>h.2.2.2.2.2.2.2.2⟩
def C2 (l:List Q3):Prop:=∀c,c∈l→CandOk c
theorem okALL (l:List Q3) (hl:l.length≤1000000):SOk (s187 l) (fun b=>(b=true↔C2 l)):=by
 show Ok (g187 l) _
 unfold g187
 refine Ok.bind2 (R:=fun e=>match e with|.inl _=>¬C2 l|.inr _=>C2 l) ?_ (fun e he=>Ok.done ⟨fun h=>by simp at h,fun h=>absurd h he⟩) (fun e he=>Ok.done ⟨fun _=>he,fun _=>rfl⟩)
 refine Ok.scan l.length hl (fun k y=>y=(k:Int)∧∀j c,j < k→l[j]?=some c→CandOk c) ⟨rfl,fun j c h=>by omega⟩ (fun k y hy hk=>?_) (fun y hy=>?_)
 ·obtain⟨rfl,hd⟩:=hy
  rw[W5]
  refine Ok.br (fun hc=>?_) (fun hc=>by simp at hc;omega)
  obtain⟨x,hx1,hx2⟩:=A7 hk
  refine Ok.row (by simp) hx1 (Ok.call (okRCAND x) fun b hb=>?_)
  refine Ok.br (fun p1=>Ok.done ?_) (fun p1=>Ok.done ?_)
  ·simp only[Bool.not_eq_true'] at p1;subst p1
   exact fun h=>by have:=hb.2 (h x (List.mem_of_getElem? hx2));simp at this
  ·simp only[Bool.not_eq_false'] at p1
   exact⟨U1 hk hl,upto2 (p:=CandOk) hd hx2 (hb.1 p1)⟩
 ·obtain⟨rfl,hd⟩:=hy
  rw[W5]
  refine Ok.br (fun hc=>by simp at hc) (fun hc=>Ok.done ?_)
  intro c hc
  obtain⟨j,hj⟩:=List.mem_iff_getElem?.1 hc
  exact hd j c (List.getElem?_eq_some_iff.1 hj).1 hj
end Go.Proofs.YtjpahkpfkohfkaaGreatDoor
namespace Go.Proofs.YtjpahkpfkohfkaaGreatDoor
open Go Go.EV
set_option maxRecDepth 100000
def c0:Q3:=⟨0,0,0,ByteArray.empty,⟨ByteArray.empty,0⟩,⟨ByteArray.empty,0⟩⟩
def locC (l:Y8) (x:Q9):Q3:=(l.fLocals[x.fLocal.toNat]?).getD c0
def remC (l:Y8) (x:Q9):Q3:=(l.fRemotes[x.fRemote.toNat]?).getD c0
def InB (l:Y8) (x:Q9):Prop:=(0≤x.fLocal∧x.fLocal < (l.fLocals.length:Int))∧(0≤x.fRemote∧x.fRemote < (l.fRemotes.length:Int))
theorem InB.loc {l:Y8} {x:Q9} (h:InB l x):l.fLocals[x.fLocal.toNat]?=some (locC l x):=by
 obtain⟨y,hy⟩:=at_of h.1.1 h.1.2
 unfold locC;rw[hy];rfl
theorem InB.rem {l:Y8} {x:Q9} (h:InB l x):l.fRemotes[x.fRemote.toNat]?=some (remC l x):=by
 obtain⟨y,hy⟩:=at_of h.2.1 h.2.2
 unfold remC;rw[hy];rfl
theorem InB.lc {l:Y8} {x:Q9} (h:InB l x):decide (0≤x.fLocal)=true:=by simpa using h.1.1
theorem InB.rc {l:Y8} {x:Q9} (h:InB l x):decide (0≤x.fRemote)=true:=by simpa using h.2.1
theorem InB.locOk {l:Y8} {x:Q9} (h:InB l x) (hc:C2 l.fLocals):CandOk (locC l x):=hc _ (List.mem_of_getElem? h.loc)
theorem InB.remOk {l:Y8} {x:Q9} (h:InB l x) (hc:C2 l.fRemotes):CandOk (remC l x):=hc _ (List.mem_of_getElem? h.rem)
def ppr (a b:Int):Int:=if b < a then b * 4294967296+2 * a+1 else a * 4294967296+2 * b
theorem okRPP (a b:Int) (ha:1≤a∧a≤2147483647) (hb:1≤b∧b≤2147483647):SOk (s234 a b) (fun r=>r=(ppr a b,0)):=by
 show Ok (g234 a b) _
 unfold g234
 refine Ok.cnd (R:=fun c=>c=false) (Ok.brF (by simp;omega) (Ok.brF (by simp;omega) (Ok.brF (by simp;omega) (Ok.done (by simp;omega))))) fun c hc=>?_
 subst hc
 refine Ok.brF rfl (Ok.br (fun h=>Ok.done ?_) (fun h=>Ok.done ?_))
 ·simp only[decide_eq_true_eq] at h
  rw[Y9 (n:=b * 4294967296) (by omega) (by omega),Y9 (n:=2 * a) (by omega) (by omega),Y9 (n:=b * 4294967296+2 * a) (by omega) (by omega),Y9 (by omega) (by omega)]
  unfold ppr;rw[if_pos h]
 ·simp only[decide_eq_false_iff_not] at h
  rw[Y9 (n:=a * 4294967296) (by omega) (by omega),Y9 (n:=2 * b) (by omega) (by omega),Y9 (by omega) (by omega)]
  unfold ppr;rw[if_neg h]
def prio (l:Y8) (x:Q9):Int:=bif l.fControlling then ppr (locC l x).fPriority (remC l x).fPriority else ppr (remC l x).fPriority (locC l x).fPriority
theorem okRPRIO (l:Y8) (x:Q9) (h:InB l x) (hl:C2 l.fLocals) (hr:C2 l.fRemotes):SOk (s189 l x) (fun r=>r=prio l x):=by
 show Ok (g189 l x) _
 unfold g189 prio
 have h1:=(h.locOk hl).2.2.1
 have h2:=(h.remOk hr).2.2.1
 refine Ok.row h.lc h.loc (Ok.row h.rc h.rem ?_)
 cases l.fControlling with
 | true=>exact Ok.brT rfl (Ok.call (okRPP _ _ h1 h2) fun r hr=>Ok.done (by rw[hr];rfl))
 | false=>exact Ok.brF rfl (Ok.call (okRPP _ _ h2 h1) fun r hr=>Ok.done (by rw[hr];rfl))
def likeK (l:Y8) (x:Q9):SLike:=⟨(locC l x).fBase,(remC l x).fAddr,(locC l x).fComponent⟩
def foundK (l:Y8) (x:Q9):V4:=⟨(locC l x).fFoundation,(remC l x).fFoundation⟩
theorem okALIKE (l:Y8) (x y:Q9) (h:InB l x) (k:InB l y):SOk (s191 l x y) (fun b=>(b=true↔likeK l x=likeK l y)):=by
 show Ok (g191 l x y) _
 unfold g191 likeK
 refine Ok.row h.lc h.loc (Ok.row h.rc h.rem (Ok.row k.lc k.loc (Ok.row k.rc k.rem ?_)))
 simp only[SLike.mk.injEq]
 refine Ok.cnd (R:=fun b=>(b=true↔(locC l x).fBase=(locC l y).fBase∧(remC l x).fAddr=(remC l y).fAddr∧(locC l x).fComponent=(locC l y).fComponent)) ?_ fun b hb=>Ok.done hb
 refine Ok.br (fun k1=>Ok.br (fun k2=>Ok.done ?_) (fun k2=>Ok.done ?_)) (fun k1=>Ok.done ?_)
 ·have e1:=eA_iff.1 k1;have e2:=eA_iff.1 k2
  rw[beq_iff_eq]
  exact⟨fun h=>⟨e1,e2,h⟩,fun h=>h.2.2⟩
 ·exact⟨fun h=>by simp at h,fun h=>by rw[eA_iff.2 h.2.1] at k2;simp at k2⟩
 ·exact⟨fun h=>by simp at h,fun h=>by rw[eA_iff.2 h.1] at k1;simp at k1⟩
theorem okRELATED (l:Y8) (x y:Q9) (h:InB l x) (k:InB l y):SOk (s192 l x y) (fun b=>(b=true↔foundK l x=foundK l y)):=by
 show Ok (g192 l x y) _
 unfold g192 foundK
 simp only[V4.mk.injEq]
 refine Ok.cnd (R:=fun b=>(b=true↔(locC l x).fFoundation=(locC l y).fFoundation∧(remC l x).fFoundation=(remC l y).fFoundation)) ?_ fun b hb=>Ok.done hb
 refine Ok.row h.lc h.loc (Ok.row k.lc k.loc (Ok.br (fun k1=>Ok.row h.rc h.rem (Ok.row k.rc k.rem (Ok.done ?_))) (fun k1=>Ok.done ?_)))
 ·simp only[decide_eq_true_eq] at k1 ⊢
  exact⟨fun h=>⟨k1,h⟩,fun h=>h.2⟩
 ·simp only[decide_eq_false_iff_not] at k1
  exact⟨fun h=>by simp at h,fun h=>absurd h.1 k1⟩
def FitP (a b:Q3):Prop:=a.fComponent=b.fComponent∧(a.fAddr.fHost.size:Int)=(b.fAddr.fHost.size:Int)
theorem okRFIT (a b:Q3):SOk (s188 a b) (fun c=>(c=true↔FitP a b)):=by
 show Ok (g188 a b) _
 unfold g188 FitP
 refine Ok.cnd (R:=fun c=>(c=true↔a.fComponent=b.fComponent∧(a.fAddr.fHost.size:Int)=(b.fAddr.fHost.size:Int))) ?_ fun c hc=>Ok.done hc
 refine Ok.br (fun h=>Ok.done ?_) (fun h=>Ok.done ?_)
 ·rw[beq_iff_eq] at h ⊢;exact⟨fun k=>⟨h,k⟩,fun k=>k.2⟩
 ·rw[beq_eq_false_iff_ne] at h;exact⟨fun k=>by simp at k,fun k=>absurd k.1 h⟩
end Go.Proofs.YtjpahkpfkohfkaaGreatDoor
namespace Go.Proofs.YtjpahkpfkohfkaaGreatDoor
open Go Go.EV
set_option maxRecDepth 100000
open Classical
theorem okPLACE (p:Int):SOk (s45 p) (fun r=>r.fHost.size≤16):=by
 show Ok (g45 p) _
 unfold g45
 exact Ok.br (fun _=>Ok.done (by rw[strOfNums_size];simp only[List.length_cons,List.length_nil];omega)) (fun _=>Ok.done (by rw[strOfNums_size];simp only[List.length_cons,List.length_nil];omega))
theorem okITOA (n:Int) (h:1≤n∧n≤4):SOk (s218 n) (fun r=>r.size≤100):=by
 have h1:SOk (s286 n) (fun r=>r.size≤100):=by
  show Ok (g286 n) _
  unfold g286
  refine Ok.brT (by simp;omega) (Ok.chk ?_ (Ok.done ?_))
  ·rw[Y9 (by omega) (by omega)];simp;omega
  ·rw[ByteArray.size_extract,Y9 (by omega) (by omega)];omega
 have h2:SOk (s273 n 10) (fun r=>r.size≤100):=by
  show Ok (g273 n 10) _
  unfold g273
  refine Ok.brT rfl (Ok.cnd (R:=fun c=>c=true) (Ok.brT (by simp;omega) (Ok.done (by simp;omega))) fun c hc=>?_)
  subst hc
  exact Ok.brT rfl (Ok.call h1 fun r hr=>Ok.done hr)
 have h3:SOk (s256 n) (fun r=>r.size≤100):=by
  show Ok (g256 n) _
  unfold g256
  exact Ok.call h2 fun r hr=>Ok.done hr
 show Ok (g218 n) _
 unfold g218
 exact Ok.call h3 fun r hr=>Ok.done hr
theorem okHEX (s:ByteArray) (h:s.size≤100000):SOk (s219 s) (fun r=>r.size≤200000):=by
 show Ok (g219 s) _
 unfold g219
 have e:Q7 ((2:Int) * (s.size:Int))=2 * (s.size:Int):=Y9 (by omega) (by omega)
 refine Ok.opr (r:=()) (by rw[e];simp only[Rule.makeD];rw[show (decide ((0:Int)≤0)&&decide ((0:Int)≤2 * (s.size:Int))&&decide (1 * (2 * (s.size:Int)).toNat≤281474976710656)&&decide (2 * (s.size:Int)≤9223372036854775807))=true from by simp;omega];rfl) ?_
 refine Ok.gh (Ok.bind (R:=fun l=>l.length≤2 * s.size) ?_ fun e he=>Ok.opr (r:=()) rfl (Ok.done (by rw[strOfNums_size];omega)))
 refine Ok.scan s.size (by omega) (fun k y=>y.2=(k:Int)∧y.1.length=2 * k) ⟨rfl,rfl⟩ (fun k y hy hk=>?_) (fun y hy=>?_)
 ·obtain⟨hi,hs⟩:=hy
  obtain⟨y1,y2⟩:=y
  simp only at hi hs
  subst hi
  have hb:=bAt_lt s (k:Int)
  have hq:(wu8 (Int.tdiv (bAt s (k:Int)) 16))=bAt s (k:Int) / 16:=by
   rw[Int.tdiv_eq_ediv_of_nonneg hb.1]
   unfold wu8 IntKind.wrap
   simp[IntKind.signed,IntKind.bits]
   omega
  have hm:Int.tmod (bAt s (k:Int)) 16=bAt s (k:Int) % 16:=Int.tmod_eq_emod_of_nonneg hb.1
  refine Ok.br (fun hc=>?_) (fun hc=>by simp at hc;omega)
  refine Ok.chk (by simp;omega) (Ok.chk (by rw[hq];simp[bs,ByteArray.size];omega) (Ok.chk (by simp;omega) (Ok.chk (by rw[hm];simp[bs,ByteArray.size];omega) (Ok.app ?_ (Ok.gh (Ok.gh (Ok.done ⟨U1 hk (by omega),?_⟩)))))))
  ·simp[hs];omega
  ·simp[hs];omega
 ·obtain⟨hi,hs⟩:=hy
  obtain⟨y1,y2⟩:=y
  simp only at hi hs
  subst hi
  exact Ok.br (fun hc=>by simp at hc) (fun hc=>Ok.done (by show y1.length≤_;omega))
theorem okRFOUND (k:Int) (b s:Z2) (hb:b.fHost.size≤100000) (hs:s.fHost.size≤100000):SOk (s150 k b s) (fun _=>True):=by
 show Ok (g150 k b s) _
 unfold g150
 refine Ok.cnd (R:=fun c=>c=false→1≤k∧k≤4) ?_ fun c hc=>?_
 ·refine Ok.br (fun h1=>Ok.done fun h=>by simp at h) (fun h1=>Ok.br (fun h2=>Ok.done fun h=>by simp at h) (fun h2=>?_))
  simp only[decide_eq_false_iff_not] at h1 h2
  have hk:1≤k∧k≤4:=⟨by omega,by omega⟩
  exact Ok.call (okRUSABLE _) fun r hr=>Ok.br (fun _=>Ok.done fun _=>hk) (fun _=>Ok.br (fun _=>Ok.call (okRUSABLE _) fun r hr=>Ok.done fun _=>hk) (fun _=>Ok.done fun _=>hk))
 ·refine Ok.br (fun _=>Ok.done trivial) (fun h=>?_)
  have hk:=hc h
  have h1:(bs [45]).size=1:=rfl
  refine Ok.call (okITOA k hk) fun r hr=>Ok.chk (by simp only[decide_eq_true_eq];omega) (Ok.call (okHEX _ hb) fun r2 hr2=>?_)
  refine Ok.chk (by simp only[decide_eq_true_eq,ByteArray.size_append];omega) (Ok.chk (by simp only[decide_eq_true_eq,ByteArray.size_append];omega) (Ok.call (okHEX _ hs) fun r3 hr3=>Ok.chk (by simp only[decide_eq_true_eq,ByteArray.size_append];omega) (Ok.done trivial)))
theorem okRPRI9 (k p c:Int):SOk (s151 k p c) (fun _=>True):=by
 show Ok (g151 k p c) _
 unfold g151
 refine Ok.cnd (R:=fun c=>c=false→1≤k∧k≤4) ?_ fun c hc=>?_
 ·refine Ok.br (fun h1=>Ok.done fun h=>by simp at h) (fun h1=>Ok.br (fun h2=>Ok.done fun h=>by simp at h) (fun h2=>?_))
  simp only[decide_eq_false_iff_not] at h1 h2
  have hk:1≤k∧k≤4:=⟨by omega,by omega⟩
  exact Ok.br (fun _=>Ok.done fun _=>hk) (fun _=>Ok.br (fun _=>Ok.done fun _=>hk) (fun _=>Ok.br (fun _=>Ok.done fun _=>hk) (fun _=>Ok.done fun _=>hk)))
 ·refine Ok.br (fun _=>Ok.done trivial) (fun h=>?_)
  have hk:=hc h
  have:k=1∨k=2∨k=3∨k=4:=by omega
  rcases this with rfl|rfl|rfl|rfl
  all_goals exact Ok.ceq rfl (Ok.br (fun _=>Ok.done trivial) (fun _=>Ok.done trivial))
theorem okRNEW (k:Int) (a b s:Z2) (p c:Int) (hb:b.fHost.size≤100000) (hs:s.fHost.size≤100000):SOk (s74 k a b s p c) (fun _=>True):=by
 show Ok (g74 k a b s p c) _
 unfold g74
 refine Ok.call (okRFOUND k b s hb hs) fun r _=>Ok.br (fun _=>Ok.done trivial) (fun _=>Ok.call (okRPRI9 _ _ _) fun r2 _=>Ok.br (fun _=>Ok.done trivial) (fun _=>Ok.call (okRCAND _) fun r3 _=>Ok.br (fun _=>Ok.done trivial) (fun _=>Ok.done trivial)))
theorem okDCAND (d:SDraft):SOk (s35 d) (fun _=>True):=by
 show Ok (g35 d) _
 unfold g35
 refine Ok.call (okPLACE _) fun a ha=>Ok.call (okPLACE _) fun b hb=>Ok.cnd (R:=fun _=>True) ?_ fun c _=>?_
 ·exact Ok.br (fun _=>Ok.done trivial) (fun _=>Ok.br (fun _=>Ok.done trivial) (fun _=>Ok.done trivial))
 refine Ok.bind (R:=fun e=>e.1.size≤16) (Ok.br (fun _=>Ok.done ha) (fun _=>Ok.done hb)) fun e he=>?_
 refine Ok.cnd (R:=fun _=>True) (Ok.br (fun _=>Ok.done trivial) (fun _=>Ok.done trivial)) fun c2 _=>?_
 refine Ok.bind (R:=fun e=>e.1.size≤16) (Ok.br (fun _=>Ok.call (okPLACE _) fun q hq=>Ok.done hq) (fun _=>Ok.done (by show (0:Nat)≤16;omega))) fun e2 he2=>?_
 exact Ok.call (okRNEW _ _ _ _ _ _ (by show e.1.size≤_;omega) (by show e2.1.size≤_;omega)) fun r _=>Ok.done trivial
theorem bif_ok {p:Prop} [Decidable p] (h:p):(bif decide p then some () else none)=some ():=by rw[decide_eq_true h];rfl
def Few (a b c:Nat) (l:Y8):Prop:=l.fLocals.length≤a∧l.fRemotes.length≤b∧l.fPairs.length≤c
theorem okRMAKE (l r:List Q3) (c:Bool):SOk (s116 l r c) (fun e=>Few 12 12 36 e.1):=by
 show Ok (g116 l r c) _
 unfold g116
 simp only[W5]
 refine Ok.cnd (R:=fun b=>b=false→l.length≤12∧r.length≤12) ?_ fun b hb=>?_
 ·exact Ok.br (fun h1=>Ok.done fun h=>by simp at h) (fun h1=>Ok.done fun h=>by simp at h h1;omega)
 refine Ok.br (fun _=>Ok.done ⟨by simp,by simp,by simp⟩) (fun h=>?_)
 obtain⟨hl,hr⟩:=hb h
 refine Ok.cnd (R:=fun b=>b=false→C2 l∧C2 r) ?_ fun b2 hb2=>?_
 ·refine Ok.call (okALL l (by omega)) fun a ha=>Ok.br (fun h1=>Ok.done fun h=>by simp at h) (fun h1=>Ok.call (okALL r (by omega)) fun a2 ha2=>Ok.done fun h=>?_)
  simp only[Bool.not_eq_false'] at h1 h
  exact⟨ha.1 h1,ha2.1 h⟩
 refine Ok.br (fun _=>Ok.done ⟨by simp,by simp,by simp⟩) (fun h2=>?_)
 obtain⟨cl,cr⟩:=hb2 h2
 have hin:∀(L:List Q9) (x:Q9),(0≤x.fLocal∧x.fLocal < (l.length:Int))∧(0≤x.fRemote∧x.fRemote < (r.length:Int))→InB ⟨c,l,r,L⟩ x:=fun L x h=>h
 refine Ok.gh (Ok.bind (R:=fun L=>(∀x,x∈L→InB ⟨c,l,r,[]⟩ x)∧L.length≤144) ?_ fun L hL=>?_)
 ·refine Ok.scan l.length (by omega) (fun k y=>y.2=(k:Int)∧(∀x,x∈y.1→InB ⟨c,l,r,[]⟩ x)∧y.1.length≤12 * k) ⟨rfl,fun x h=>by simp at h,Nat.zero_le _⟩ (fun k y hy hk=>?_) (fun y hy=>?_)
  ·obtain⟨hi,hI,hs⟩:=hy
   obtain⟨y1,y2⟩:=y
   simp only at hi hI hs
   subst hi
   refine Ok.br (fun hc=>Ok.gh ?_) (fun hc=>by simp at hc;omega)
   refine Ok.bind (R:=fun L=>(∀x,x∈L→InB ⟨c,l,r,[]⟩ x)∧L.length≤12 * (k+1)) ?_ fun L hL=>Ok.gh (Ok.done ⟨U1 hk (by omega),hL.1,hL.2⟩)
   refine Ok.scan r.length (by omega) (fun j z=>z.2=(j:Int)∧(∀x,x∈z.1→InB ⟨c,l,r,[]⟩ x)∧z.1.length≤12 * k+j) ⟨rfl,hI,by simpa using hs⟩ (fun j z hz hj=>?_) (fun z hz=>?_)
   ·obtain⟨ji,jI,js⟩:=hz
    obtain⟨z1,z2⟩:=z
    simp only at ji jI js
    subst ji
    refine Ok.br (fun hc=>?_) (fun hc=>by simp at hc;omega)
    obtain⟨x,hx1,hx2⟩:=A7 hk
    obtain⟨w,hw1,hw2⟩:=A7 hj
    refine Ok.row (by simp) hx1 (Ok.row (by simp) hw1 (Ok.call (okRFIT x w) fun a _=>Ok.br (fun _=>?_) (fun _=>Ok.done ⟨U1 hj (by omega),jI,by show z1.length≤_;omega⟩)))
    have hnew:∀p s:Int,InB ⟨c,l,r,[]⟩ (Q9.mk (k:Int) (j:Int) p s):=fun p s=>⟨⟨by simp,by simp;omega⟩,⟨by simp,by simp;omega⟩⟩
    refine Ok.call (okRPRIO ⟨c,l,r,[]⟩ _ (hnew 0 0) cl cr) fun p _=>?_
    refine Ok.bind (R:=fun e=>0≤e.2∧e.2≤(z1.length:Int)) ?_ fun e he=>?_
    ·refine Ok.lp (fun a=>0≤a∧a≤(z1.length:Int)) (fun a=>a.toNat) ⟨by show (0:Int)≤(z1.length:Int);omega,Int.le_refl _⟩ (I7 (by show ((z1.length:Int)).toNat≤_;omega)) (fun a ha=>?_)
     refine Ok.cnd (R:=fun b=>b=true→0 < a) ?_ fun b hb=>Ok.br (fun h=>?_) (fun h=>Ok.done ha)
     ·refine Ok.br (fun h=>?_) (fun h=>Ok.done fun h=>by simp at h)
      simp only[decide_eq_true_eq] at h
      have e1:Q7 (a - 1)=a - 1:=Y9 (by omega) (by omega)
      obtain⟨q,hq⟩:=at_of (l:=z1) (i:=a - 1) (by omega) (by omega)
      refine Ok.chk (by rw[e1];simp;omega) (Ok.row rfl (by rw[e1,Nat.zero_add];exact hq) (Ok.call (R:=fun _=>True) ?_ fun b _=>Ok.done fun _=>h))
      show Ok (g190 _ _) _
      unfold g190
      exact Ok.br (fun _=>Ok.done trivial) (fun _=>Ok.br (fun _=>Ok.done trivial) (fun _=>Ok.done trivial))
     ·have h9:=hb h
      have e1:Q7 (a - 1)=a - 1:=Y9 (by omega) (by omega)
      refine Ok.done ?_
      show Rnd _ _ _ _ (.inl (Q7 (a - 1)))
      rw[e1]
      exact⟨⟨by omega,by omega⟩,by show (a - 1).toNat < a.toNat;omega⟩
    ·obtain⟨h0,h1⟩:=he
     have c1:(decide (0≤e.2)&&decide (e.2≤(z1.length:Int)))=true:=by simp;exact⟨h0,h1⟩
     refine Ok.chk c1 (Ok.opr (r:=()) (bif_ok ⟨by show 0+e.2.toNat≤z1.length;omega,by simp;omega⟩) ?_)
     refine Ok.app (by simp;omega) (Ok.chk c1 (Ok.opr (r:=()) (bif_ok ⟨by simp;omega,by simp;omega⟩) (Ok.gh (Ok.gh (Ok.done ⟨U1 hj (by omega),?_,?_⟩)))))
     ·intro x hx
      simp only[List.nil_append,List.drop_zero,List.append_assoc,List.mem_append,List.mem_cons,List.not_mem_nil,or_false] at hx
      rcases hx with hx|rfl|hx
      ·exact jI x (List.mem_of_mem_take hx)
      ·exact hnew _ _
      ·exact jI x (List.mem_of_mem_drop (List.mem_of_mem_take hx))
     ·simp;omega
   ·obtain⟨ji,jI,js⟩:=hz
    obtain⟨z1,z2⟩:=z
    simp only at ji jI js
    subst ji
    exact Ok.br (fun hc=>by simp at hc) (fun hc=>Ok.done ⟨jI,by show z1.length≤_;omega⟩)
  ·obtain⟨hi,hI,hs⟩:=hy
   obtain⟨y1,y2⟩:=y
   simp only at hi hI hs
   subst hi
   exact Ok.br (fun hc=>by simp at hc) (fun hc=>Ok.done ⟨hI,by show y1.length≤_;omega⟩)
 ·obtain⟨hI,hL⟩:=hL
  refine Ok.gh (Ok.bind (R:=fun M=>(∀x,x∈M→InB ⟨c,l,r,[]⟩ x)∧M.length≤36) ?_ fun M hM=>?_)
  ·refine Ok.scan L.length (by omega) (fun k y=>y.2=(k:Int)∧(∀x,x∈y.1→InB ⟨c,l,r,[]⟩ x)∧y.1.length≤36) ⟨rfl,fun x h=>by simp at h,Nat.zero_le _⟩ (fun k y hy hk=>?_) (fun y hy=>?_)
   ·obtain⟨hi,yI,hs⟩:=hy
    obtain⟨y1,y2⟩:=y
    simp only at hi yI hs
    subst hi
    refine Ok.br (fun hc=>?_) (fun hc=>by simp at hc;omega)
    obtain⟨x,hx1,hx2⟩:=A7 hk
    have hxI:=hI x (List.mem_of_getElem? hx2)
    have hx3:L[0+((k:Int)).toNat]?=some x:=by rw[Nat.zero_add];exact hx1
    refine Ok.bind (R:=fun _=>True) ?_ fun e _=>?_
    ·refine Ok.scan k (by omega) (fun j z=>z.2=(j:Int)) rfl (fun j z hz hj=>?_) (fun z hz=>?_)
     ·obtain⟨z1,z2⟩:=z
      simp only at hz
      subst hz
      refine Ok.br (fun hc=>?_) (fun hc=>by simp at hc;omega)
      obtain⟨w,hw1,hw2⟩:=A7 (show j < L.length by omega)
      have hwI:=hI w (List.mem_of_getElem? hw2)
      refine Ok.cnd (R:=fun _=>True) (Ok.br (fun _=>Ok.done trivial) (fun _=>?_)) fun c _=>Ok.done (U1 hj (by omega))
      refine Ok.chk (by simp;omega) (Ok.row rfl hx3 (Ok.chk (by simp;omega) (Ok.row rfl (by rw[Nat.zero_add];exact hw1) (Ok.view (okALIKE _ x w hxI hwI) fun _ _=>Ok.done trivial))))
     ·obtain⟨z1,z2⟩:=z
      simp only at hz
      subst hz
      exact Ok.br (fun hc=>by simp at hc) (fun hc=>Ok.done trivial)
    ·refine Ok.cnd (R:=fun b=>b=true→y1.length < 36) (Ok.br (fun _=>Ok.done (by intro h;have h7:((y1.length:Nat):Int) < 36:=of_decide_eq_true h;omega)) (fun _=>Ok.done fun h=>by simp at h)) fun b hb=>Ok.br (fun h=>?_) (fun h=>Ok.done ⟨U1 hk (by omega),yI,hs⟩)
     have h8:=hb h
     refine Ok.chk (by simp;omega) (Ok.row rfl hx3 (Ok.app (by simp;omega) (Ok.gh (Ok.gh (Ok.done ⟨U1 hk (by omega),?_,by simp;omega⟩)))))
     intro z hz
     rcases List.mem_append.1 hz with hz|hz
     ·exact yI z hz
     ·simp only[List.mem_singleton] at hz;subst hz;exact hxI
   ·obtain⟨hi,yI,hs⟩:=hy
    obtain⟨y1,y2⟩:=y
    simp only at hi yI hs
    subst hi
    exact Ok.br (fun hc=>by simp at hc) (fun hc=>Ok.done ⟨yI,hs⟩)
  ·obtain⟨mI,mL⟩:=hM
   refine Ok.bind (R:=fun N=>N.length≤36) ?_ fun N hN=>Ok.gh (Ok.done ⟨hl,hr,hN⟩)
   refine Ok.scan M.length (by omega) (fun k y=>y.2=(k:Int)∧(∀x,x∈y.1→InB ⟨c,l,r,[]⟩ x)∧y.1.length=M.length) ⟨rfl,mI,rfl⟩ (fun k y hy hk=>?_) (fun y hy=>?_)
   ·obtain⟨hi,yI,hs⟩:=hy
    obtain⟨y1,y2⟩:=y
    simp only at hi yI hs
    subst hi
    refine Ok.br (fun hc=>?_) (fun hc=>by simp[hs] at hc;omega)
    obtain⟨x,hx1,hx2⟩:=A7 (show k < y1.length by omega)
    have hxI:=yI x (List.mem_of_getElem? hx2)
    have hx3:y1[0+((k:Int)).toNat]?=some x:=by rw[Nat.zero_add];exact hx1
    refine Ok.chk (by simp;omega) (Ok.row rfl hx3 (Ok.row hxI.lc hxI.loc ?_))
    refine Ok.bind (R:=fun _=>True) ?_ fun e _=>Ok.br (fun _=>?_) (fun _=>Ok.done ⟨U1 hk (by omega),yI,hs⟩)
    ·refine Ok.scan y1.length (by omega) (fun j z=>z.2=(j:Int)) rfl (fun j z hz hj=>?_) (fun z hz=>?_)
     ·obtain⟨z1,z2⟩:=z
      simp only at hz
      subst hz
      refine Ok.br (fun hc=>?_) (fun hc=>by simp at hc;omega)
      obtain⟨w,hw1,hw2⟩:=A7 hj
      have hwI:=yI w (List.mem_of_getElem? hw2)
      have hw3:y1[0+((j:Int)).toNat]?=some w:=by rw[Nat.zero_add];exact hw1
      refine Ok.chk (by simp;omega) (Ok.row rfl hw3 (Ok.row hwI.lc hwI.loc (Ok.cnd (R:=fun _=>True) ?_ fun b _=>Ok.br (fun _=>Ok.done (U1 hj (by omega))) (fun _=>Ok.done (U1 hj (by omega))))))
      refine Ok.chk (by simp;omega) (Ok.row rfl hx3 (Ok.chk (by simp;omega) (Ok.row rfl hw3 (Ok.view (okRELATED _ x w hxI hwI) fun _ _=>?_))))
      exact Ok.br (fun _=>Ok.br (fun _=>Ok.done trivial) (fun _=>Ok.br (fun _=>Ok.done trivial) (fun _=>Ok.done trivial))) (fun _=>Ok.done trivial)
     ·obtain⟨z1,z2⟩:=z
      simp only at hz
      subst hz
      exact Ok.br (fun hc=>by simp at hc) (fun hc=>Ok.done trivial)
    ·refine Ok.chk (by simp;omega) (Ok.row rfl hx3 (Ok.re (Ok.gh (Ok.done ⟨U1 hk (by omega),?_,by simp[hs]⟩))))
     intro z hz
     rcases List.mem_or_eq_of_mem_set hz with hz|hz
     ·exact yI z hz
     ·subst hz;exact hxI
   ·obtain⟨hi,yI,hs⟩:=hy
    obtain⟨y1,y2⟩:=y
    simp only at hi yI hs
    subst hi
    exact Ok.br (fun hc=>by simp[hs] at hc) (fun hc=>Ok.done (by show y1.length≤36;omega))
end Go.Proofs.YtjpahkpfkohfkaaGreatDoor
namespace Go.Proofs.YtjpahkpfkohfkaaGreatDoor
open Go Go.EV
set_option maxRecDepth 100000
def beN:Nat→Int→List Int
 | 0,_=>[]
 | n+1,v=>beN n (v / 256)++[v % 256]
def num (l:List Int):Int:=l.foldl (fun v c=>v * 256+c) 0
theorem num_snoc (l:List Int) (c:Int):num (l++[c])=num l * 256+c:=by unfold num;rw[List.foldl_append];rfl
theorem K0 (n:Nat) (v:Int):(beN n v).length=n:=by
 induction n generalizing v with
 | zero=>rfl
 | succ n ih=>simp only[beN,List.length_append,ih];rfl
theorem num_beN (n:Nat) (v:Int) (h0:0≤v) (h:v < 256 ^ n):num (beN n v)=v:=by
 induction n generalizing v with
 | zero=>simp at h;simp[beN,num];omega
 | succ n ih=>
  rw[beN,num_snoc,ih (v / 256) (by omega) (by rw[Int.pow_succ] at h;omega)]
  omega
theorem beN_byte (n:Nat) (v:Int):∀c,c∈beN n v→0≤c∧c < 256:=by
 induction n generalizing v with
 | zero=>intro c h;simp[beN] at h
 | succ n ih=>
  intro c h
  rw[beN] at h
  rcases List.mem_append.1 h with h|h
  ·exact ih _ c h
  ·simp at h;subst h;omega
theorem octets_lt {s:ByteArray} {c:Int} (h:c∈Z3 s):0≤c∧c < 256:=by
 unfold Z3 at h
 obtain⟨b,_,rfl⟩:=List.mem_map.1 h
 have:=b.toNat_lt
 omega
theorem P0 {l:List Int} (h:∀c,c∈l→0≤c∧c < 256):Z3 (strOfNums l)=l:=by
 unfold Z3
 rw[strOfNums_data,List.map_map]
 conv=>rhs;rw[←List.map_id l]
 refine List.map_congr_left fun c hc=>?_
 have:=h c hc
 simp only[Function.comp,id]
 rw[UInt8.toNat_ofNat_of_lt' (by show c.toNat < 256;omega)]
 omega
theorem nums_octets (s:ByteArray):strOfNums (Z3 s)=s:=by
 apply ByteArray.ext
 apply Array.ext'
 rw[strOfNums_data]
 unfold Z3
 rw[List.map_map]
 conv=>rhs;rw[←List.map_id s.data.toList]
 refine List.map_congr_left fun c hc=>?_
 simp
theorem U4 (l:List Int):(strOfNums l).size=l.length:=strOfNums_size l
theorem bShl8 {v:Int} (h0:0≤v) (h:v < 281474976710656):bShl .i64 v 8=v * 256:=by
 show IntKind.i64.wrap (v * 2 ^ (min 8 64))=v * 256
 rw[show (2:Int) ^ (min 8 64)=256 from by decide]
 exact Y9 (by omega) (by omega)
theorem bOr_nat {a b:Nat} (ha:a < 9223372036854775808) (hb:b < 9223372036854775808):bOr .i64 a b=((a ||| b:Nat):Int):=by
 have hlt:a ||| b < 9223372036854775808:=Nat.or_lt_two_pow (n:=63) ha hb
 show IntKind.i64.wrap ((BitVec.ofInt 64 a ||| BitVec.ofInt 64 b).toNat:Int)=_
 rw[BitVec.ofInt_natCast,BitVec.ofInt_natCast,BitVec.toNat_or,BitVec.toNat_ofNat,BitVec.toNat_ofNat,Nat.mod_eq_of_lt (by omega),Nat.mod_eq_of_lt (by omega)]
 exact Y9 (by omega) (by omega)
theorem bOr_byte {v c:Int} (h0:0≤v) (h:v < 281474976710656) (c0:0≤c) (c1:c < 256):bOr .i64 (bShl .i64 v 8) (Q7 c)=v * 256+c:=by
 rw[bShl8 h0 h,Y9 (by omega) (by omega)]
 obtain⟨a,rfl⟩:=Int.eq_ofNat_of_zero_le h0
 obtain⟨b,rfl⟩:=Int.eq_ofNat_of_zero_le c0
 have e:((a:Int) * 256)=((256 * a:Nat):Int):=by omega
 rw[e,bOr_nat (by omega) (by omega),←Nat.two_pow_add_eq_or_of_lt (i:=8) (by omega) a]
 omega
theorem num_lt {l:List Int} (h:∀c,c∈l→0≤c∧c < 256):0≤num l∧num l < 256 ^ l.length:=by
 have key:∀r:List Int,(∀c,c∈r→0≤c∧c < 256)→0≤num r.reverse∧num r.reverse < 256 ^ r.length:=by
  intro r
  induction r with
  | nil=>intro _;simp[num]
  | cons c r ih=>
   intro hr
   have h1:=ih fun x hx=>hr x (List.mem_cons_of_mem _ hx)
   have h2:=hr c (List.mem_cons_self)
   rw[List.reverse_cons,num_snoc,List.length_cons,Int.pow_succ]
   omega
 have:=key l.reverse (fun c hc=>h c (List.mem_reverse.1 hc))
 rw[List.reverse_reverse,List.length_reverse] at this
 exact this
theorem num_lt6 {l:List Int} {n:Nat} (h:∀c,c∈l→0≤c∧c < 256) (hn:l.length≤7):0≤num (l.take n)∧(n < l.length→num (l.take n) < 281474976710656):=by
 have h1:=num_lt (l:=l.take n) fun c hc=>h c (List.mem_of_mem_take hc)
 refine⟨h1.1,fun hlt=>?_⟩
 have hl:(l.take n).length≤6:=by rw[List.length_take];omega
 have e:∀k:Fin 7,(256:Int) ^ k.val≤281474976710656:=by decide
 have:=e ⟨(l.take n).length,by omega⟩
 exact Int.lt_of_lt_of_le h1.2 this
theorem num_take {l:List Int} {k:Nat} {c:Int} (h:l[k]?=some c):num (l.take (k+1))=num (l.take k) * 256+c:=by
 rw[List.take_add_one,h]
 exact num_snoc _ _
theorem okUINT1 (s:ByteArray) (h:s.size≤7):SOk (s208 s) (fun r=>r=num (Z3 s)):=by
 have hl:=M9 s
 have hb:∀c,c∈Z3 s→0≤c∧c < 256:=fun c hc=>octets_lt hc
 unfold s208
 show Ok (g208 s) _
 refine Ok.opr rfl ?_
 refine Ok.bind (R:=fun e=>e=num (Z3 s)) ?_ fun e he=>Ok.done he
 refine Ok.scan s.size (by omega) (fun k y=>k≤s.size∧y=(num ((Z3 s).take k),(k:Int))) ⟨Nat.zero_le _,rfl⟩ (fun k y hy hk=>?_) fun y hy=>?_
 ·obtain⟨_,rfl⟩:=hy
  refine Ok.brT (by simp;omega) ?_
  obtain⟨x,hx,hx'⟩:=A7 (l:=Z3 s) (k:=k) (by omega)
  refine Ok.chk (by simp;omega) (Ok.row rfl (x:=x) (by simpa using hx') (Ok.done ?_))
  have h1:=num_lt6 (n:=k) hb (by omega)
  have h2:=hb x (List.mem_of_getElem? hx')
  refine⟨hk,?_⟩
  rw[num_take hx',←bOr_byte h1.1 (h1.2 (by omega)) h2.1 h2.2,U1 hk (by omega)]
 ·obtain⟨_,rfl⟩:=hy
  refine Ok.brF (by simp;omega) (Ok.done ?_)
  show num ((Z3 s).take s.size)=_
  rw[←hl,List.take_length]
theorem extract_size {s:ByteArray} {a n:Nat} (h:a+n≤s.size):(s.extract a (a+n)).size=n:=by
 rw[ByteArray.size_extract];omega
theorem okREAD (s:ByteArray) (a:Nat) (h:a≤s.size):SOk (s240 ⟨s,a⟩) (fun r=>r=(⟨⟨s,a⟩⟩,0)):=by
 unfold s240
 show Ok (g240 ⟨s,a⟩) _
 refine Ok.cnd (R:=fun c=>c=false) ?_ fun c hc=>?_
 ·refine Ok.brF (by simp) (Ok.done ?_)
  simp;omega
 ·subst hc
  exact Ok.brF rfl (Ok.done rfl)
theorem okUINT (s:ByteArray) (a n:Nat) (h:a+n≤s.size) (hn:1≤n) (hn7:n≤7) (hs:s.size≤1000000):SOk (s129 ⟨s,a⟩ (n:Int)) (fun r=>r=(num (Z3 (s.extract a (a+n))),⟨s,((a+n:Nat):Int)⟩,0)):=by
 unfold s129
 show Ok (g129 ⟨s,a⟩ n) _
 refine Ok.call (R:=fun r=>r=(num (Z3 (s.extract a (a+n))),⟨s,((a+n:Nat):Int)⟩,0)) ?_ fun r hr=>Ok.done (by rw[hr])
 unfold s207
 show Ok (g207 ⟨s,a⟩ n 1 7) _
 refine Ok.call (okREAD s a (by omega)) fun r hr=>?_
 subst hr
 refine Ok.brF rfl ?_
 refine Ok.cnd (R:=fun c=>c=false) ?_ fun c hc=>?_
 ·refine Ok.brF (by simp;omega) (Ok.done ?_)
  simp;omega
 ·subst hc
  have e1:Q7 ((s.size:Int) - (a:Int))=(s.size:Int) - a:=Y9 (by omega) (by omega)
  have e2:Q7 ((a:Int)+(n:Int))=((a+n:Nat):Int):=by rw[Y9 (by omega) (by omega)];omega
  refine Ok.brF rfl (Ok.brF ?_ (Ok.chk ?_ (Ok.call (R:=fun r=>r=num (Z3 (s.extract a (a+n)))) ?_ fun r hr=>Ok.done ?_)))
  ·show decide (Q7 ((s.size:Int) - (a:Int)) < (n:Int))=false
   rw[e1];simp;omega
  ·show ((decide (0≤(Q7 ((a:Int)+(n:Int))))&&decide ((Q7 ((a:Int)+(n:Int)))≤(s.size:Int)))&&(decide (0≤(a:Int))&&decide ((a:Int)≤((Q7 ((a:Int)+(n:Int))).toNat:Int))))=true
   rw[e2];simp;omega
  ·show SOk (s208 (s.extract (a:Int).toNat ((Q7 ((a:Int)+(n:Int))).toNat))) _
   rw[e2,Int.toNat_natCast,Int.toNat_natCast]
   exact okUINT1 _ (by rw[extract_size h];exact hn7)
  ·subst hr
   show (_,U0.mk s (Q7 ((a:Int)+(n:Int))),(0:Int))=_
   rw[e2]
theorem okTAKE (s:ByteArray) (a n:Nat) (h:a+n≤s.size) (hs:s.size≤1000000):SOk (s211 ⟨s,a⟩ (n:Int)) (fun r=>r=(s.extract a (a+n),⟨s,((a+n:Nat):Int)⟩,0)):=by
 unfold s211
 show Ok (g211 ⟨s,a⟩ n) _
 refine Ok.call (R:=fun r=>r=(s.extract a (a+n),⟨s,((a+n:Nat):Int)⟩,0)) ?_ fun r hr=>Ok.done (by rw[hr])
 have em:(if (0:Int) > (n:Int) then (0:Int) else (n:Int))=n:=by rw[if_neg (by omega)]
 rw[em]
 unfold s241
 show Ok (g241 ⟨s,a⟩ n 0 n) _
 refine Ok.call (okREAD s a (by omega)) fun r hr=>?_
 subst hr
 refine Ok.brF rfl ?_
 refine Ok.cnd (R:=fun c=>c=false) ?_ fun c hc=>?_
 ·refine Ok.brF (by simp) (Ok.done ?_)
  simp
 ·subst hc
  have e1:Q7 ((s.size:Int) - (a:Int))=(s.size:Int) - a:=Y9 (by omega) (by omega)
  have e2:Q7 ((a:Int)+(n:Int))=((a+n:Nat):Int):=by rw[Y9 (by omega) (by omega)];omega
  refine Ok.brF rfl (Ok.brF ?_ (Ok.chk ?_ (Ok.call (R:=fun r=>r=s.extract a (a+n)) ?_ fun r hr=>Ok.done ?_)))
  ·show decide (Q7 ((s.size:Int) - (a:Int)) < (n:Int))=false
   rw[e1];simp;omega
  ·show ((decide (0≤(Q7 ((a:Int)+(n:Int))))&&decide ((Q7 ((a:Int)+(n:Int)))≤(s.size:Int)))&&(decide (0≤(a:Int))&&decide ((a:Int)≤((Q7 ((a:Int)+(n:Int))).toNat:Int))))=true
   rw[e2];simp;omega
  ·show SOk (s242 (s.extract (a:Int).toNat ((Q7 ((a:Int)+(n:Int))).toNat))) _
   rw[e2,Int.toNat_natCast,Int.toNat_natCast]
   exact Ok.done rfl
  ·subst hr
   show (_,U0.mk s (Q7 ((a:Int)+(n:Int))),(0:Int))=_
   rw[e2]
theorem wu8_eq (n:Int):wu8 n=n % 256:=IntKind.wrap_u8 n
theorem K6 (v:Int) (k:Nat) (h:k≤64):Z5 .i64 v (k:Int)=v / 2 ^ k:=by
 show v.fdiv (2 ^ (min (k:Int).toNat 64))=_
 rw[Int.toNat_natCast,Nat.min_eq_left h,Int.fdiv_eq_ediv_of_nonneg _ (Int.pow_nonneg (by decide))]
theorem putR {n:Nat} {v:Int} {r:Option (ByteArray×Int)} {l:List Int} (h0:0≤v) (h:Z5 .i64 v ((8 * n:Nat):Int)=0) (hr:r=(bif decide (v < 0) then some (ByteArray.empty,2) else bif (Z5 .i64 v ((8 * n:Nat):Int) != 0) then some (ByteArray.empty,6) else some (strOfNums l,0)))
  (hl:l=beN n v):∃x,r=some x∧x=(strOfNums (beN n v),0):=by
 rw[hr,decide_eq_false (by omega),h,hl]
 exact⟨_,rfl,rfl⟩
theorem okPUT1 (v:Int) (h0:0≤v) (h:v < 256):SOk (s198 1 v) (fun r=>r=(strOfNums (beN 1 v),0)):=
 putR h0 (by rw[K6 v _ (by decide)];simp;omega) (show (g198 1 v).run=(bif decide (v < 0) then some (ByteArray.empty,2) else bif (Z5 .i64 v ((8 * 1:Nat):Int) != 0) then some (ByteArray.empty,6) else some (strOfNums [wu8 (Z5 .i64 v ((0:Nat):Int))],0)) by kernel_rfl)
  (by simp only[wu8_eq,K6 _ _ (show 0≤64 by decide),beN,List.nil_append];simp)
theorem okPUT2 (v:Int) (h0:0≤v) (h:v < 65536):SOk (s198 2 v) (fun r=>r=(strOfNums (beN 2 v),0)):=
 putR h0 (by rw[K6 v _ (by decide)];simp;omega) (show (g198 2 v).run=(bif decide (v < 0) then some (ByteArray.empty,2) else bif (Z5 .i64 v ((8 * 2:Nat):Int) != 0) then some (ByteArray.empty,6) else some (strOfNums [wu8 (Z5 .i64 v ((8:Nat):Int)),wu8 (Z5 .i64 v ((0:Nat):Int))],0)) by kernel_rfl)
  (by simp only[wu8_eq,K6 _ _ (show 0≤64 by decide),K6 _ _ (show 8≤64 by decide),beN,List.nil_append];simp)
theorem okPUT4 (v:Int) (h0:0≤v) (h:v < 4294967296):SOk (s198 4 v) (fun r=>r=(strOfNums (beN 4 v),0)):=
 putR h0 (by rw[K6 v _ (by decide)];simp;omega) (show (g198 4 v).run=(bif decide (v < 0) then some (ByteArray.empty,2) else bif (Z5 .i64 v ((8 * 4:Nat):Int) != 0) then some (ByteArray.empty,6) else some (strOfNums [wu8 (Z5 .i64 v ((24:Nat):Int)),wu8 (Z5 .i64 v ((16:Nat):Int)),wu8 (Z5 .i64 v ((8:Nat):Int)),wu8 (Z5 .i64 v ((0:Nat):Int))],0)) by kernel_rfl)
  (by simp only[wu8_eq,K6 _ _ (show 0≤64 by decide),K6 _ _ (show 8≤64 by decide),K6 _ _ (show 16≤64 by decide),K6 _ _ (show 24≤64 by decide),beN,List.nil_append,List.cons_append,Int.pow_zero,Int.ediv_one,List.cons.injEq,and_true];omega)
theorem okPUT5 (v:Int) (h0:0≤v) (h:v < 1099511627776):SOk (s198 5 v) (fun r=>r=(strOfNums (beN 5 v),0)):=
 putR h0 (by rw[K6 v _ (by decide)];simp;omega) (show (g198 5 v).run=(bif decide (v < 0) then some (ByteArray.empty,2) else bif (Z5 .i64 v ((8 * 5:Nat):Int) != 0) then some (ByteArray.empty,6) else some (strOfNums [wu8 (Z5 .i64 v ((32:Nat):Int)),wu8 (Z5 .i64 v ((24:Nat):Int)),wu8 (Z5 .i64 v ((16:Nat):Int)),wu8 (Z5 .i64 v ((8:Nat):Int)),wu8 (Z5 .i64 v ((0:Nat):Int))],0)) by kernel_rfl)
  (by simp only[wu8_eq,K6 _ _ (show 0≤64 by decide),K6 _ _ (show 8≤64 by decide),K6 _ _ (show 16≤64 by decide),K6 _ _ (show 24≤64 by decide),K6 _ _ (show 32≤64 by decide),beN,List.nil_append,List.cons_append,Int.pow_zero,Int.ediv_one,List.cons.injEq,and_true];omega)
theorem okPUT7 (v:Int) (h0:0≤v) (h:v < 72057594037927936):SOk (s198 7 v) (fun r=>r=(strOfNums (beN 7 v),0)):=
 putR h0 (by rw[K6 v _ (by decide)];simp;omega) (show (g198 7 v).run=(bif decide (v < 0) then some (ByteArray.empty,2) else bif (Z5 .i64 v ((8 * 7:Nat):Int) != 0) then some (ByteArray.empty,6) else some (strOfNums [wu8 (Z5 .i64 v ((48:Nat):Int)),wu8 (Z5 .i64 v ((40:Nat):Int)),wu8 (Z5 .i64 v ((32:Nat):Int)),wu8 (Z5 .i64 v ((24:Nat):Int)),wu8 (Z5 .i64 v ((16:Nat):Int)),wu8 (Z5 .i64 v ((8:Nat):Int)),wu8 (Z5 .i64 v ((0:Nat):Int))],0)) by kernel_rfl)
  (by simp only[wu8_eq,K6 _ _ (show 0≤64 by decide),K6 _ _ (show 8≤64 by decide),K6 _ _ (show 16≤64 by decide),K6 _ _ (show 24≤64 by decide),K6 _ _ (show 32≤64 by decide),K6 _ _ (show 40≤64 by decide),K6 _ _ (show 48≤64 by decide),beN,List.nil_append,List.cons_append,Int.pow_zero,Int.ediv_one,List.cons.injEq,and_true];omega)
theorem okPAD (s:ByteArray) (h:s.size % 4=0):SOk (s205 s 4) (fun r=>r=(s,0)):=by
 unfold s205
 show Ok (g205 s 4) _
 refine Ok.call (R:=fun r=>r=true) ⟨true,by kernel_rfl,rfl⟩ fun r hr=>?_
 subst hr
 refine Ok.brF rfl (Ok.opr rfl (Ok.gh (Ok.bind (R:=fun e=>e=Z3 s) ?_ fun e he=>?_)))
 ·refine Ok.scan 0 (by decide) (fun _ y=>y=Z3 s) rfl (fun k y _ hk=>absurd hk (Nat.not_lt_zero _)) fun y hy=>?_
  subst hy
  refine Ok.chk rfl (Ok.brF ?_ (Ok.done rfl))
  rw[M9]
  have:Int.tmod ((s.size:Nat):Int) 4=0:=by
   rw[Int.tmod_eq_emod_of_nonneg (by omega)];omega
  rw[this];rfl
 ·subst he
  refine Ok.opr rfl (Ok.done ?_)
  rw[nums_octets]
end Go.Proofs.YtjpahkpfkohfkaaGreatDoor
namespace Go.Proofs.YtjpahkpfkohfkaaGreatDoor
open Go Go.EV
set_option maxRecDepth 100000
theorem okANUM (s:ByteArray) (h:s.size≤7):SOk (s135 s) (fun r=>r=num (Z3 s)):=by
 have hl:=M9 s
 have hb:∀c,c∈Z3 s→0≤c∧c < 256:=fun c hc=>octets_lt hc
 unfold s135
 show Ok (g135 s) _
 refine Ok.opr rfl ?_
 refine Ok.bind (R:=fun e=>e=num (Z3 s)) ?_ fun e he=>Ok.done he
 refine Ok.scan s.size (by omega) (fun k y=>k≤s.size∧y=(num ((Z3 s).take k),(k:Int))) ⟨Nat.zero_le _,rfl⟩ (fun k y hy hk=>?_) fun y hy=>?_
 ·obtain⟨_,rfl⟩:=hy
  refine Ok.brT (by simp;omega) ?_
  obtain⟨x,hx,hx'⟩:=A7 (l:=Z3 s) (k:=k) (by omega)
  refine Ok.chk (by simp;omega) (Ok.row rfl (x:=x) (by simpa using hx') (Ok.done ?_))
  have h1:=num_lt6 (n:=k) hb (by omega)
  have h2:=hb x (List.mem_of_getElem? hx')
  refine⟨hk,?_⟩
  rw[num_take hx',←bOr_byte h1.1 (h1.2 (by omega)) h2.1 h2.2,U1 hk (by omega)]
 ·obtain⟨_,rfl⟩:=hy
  refine Ok.brF (by simp;omega) (Ok.done ?_)
  show num ((Z3 s).take s.size)=_
  rw[←hl,List.take_length]
def G0 (a:Q4):Prop:=(0≤a.fKind∧a.fKind < 65536)∧a.fValue.size≤763∧a.fValue.size % 4=0
def Z8 (l:List Q4):Nat:=(l.map fun a=>4+a.fValue.size).sum
theorem sizeL_take {l:List Q4} {k:Nat} {x:Q4} (h:l[k]?=some x):Z8 (l.take (k+1))=Z8 (l.take k)+(4+x.fValue.size):=by
 unfold Z8
 rw[List.take_add_one,h]
 simp
theorem sizeL_le {l:List Q4} (h:∀a,a∈l→G0 a):Z8 l≤767 * l.length:=by
 induction l with
 | nil=>simp[Z8]
 | cons a l ih=>
  have h1:=ih fun x hx=>h x (List.mem_cons_of_mem _ hx)
  have h2:=h a List.mem_cons_self
  unfold G0 at h2
  unfold Z8 at h1 ⊢
  simp only[List.map_cons,List.sum_cons,List.length_cons]
  omega
theorem okSSIZE (l:List Q4) (h:∀a,a∈l→G0 a) (hl:l.length≤1000):SOk (s193 l) (fun r=>r=(Z8 l:Nat)):=by
 unfold s193
 show Ok (g193 l) _
 refine Ok.bind (R:=fun e=>e=((Z8 l:Nat):Int)) ?_ fun e he=>Ok.done he
 refine Ok.scan l.length (by omega) (fun k y=>y=(((Z8 (l.take k):Nat):Int),(k:Int))) rfl (fun k y hy hk=>?_) fun y hy=>?_
 ·subst hy
  refine Ok.brT (by rw[W5];simp;omega) ?_
  obtain⟨x,hx,hx'⟩:=A7 (l:=l) (k:=k) hk
  refine Ok.row (by simp) hx (Ok.done ?_)
  have hax:=h x (List.mem_of_getElem? hx')
  have hsz:=sizeL_le (l:=l.take k) fun a ha=>h a (List.mem_of_mem_take ha)
  have htl:(l.take k).length≤1000:=by rw[List.length_take];omega
  obtain⟨_,h2,h3⟩:=hax
  have e1:Q7 ((x.fValue.size:Int)+3)=(x.fValue.size:Int)+3:=Y9 (by omega) (by omega)
  have e2:Int.tdiv ((x.fValue.size:Int)+3) 4=((x.fValue.size / 4:Nat):Int):=by rw[Int.tdiv_eq_ediv_of_nonneg (by omega)];omega
  show _=_
  rw[sizeL_take hx']
  show (Q7 (((Z8 (l.take k):Nat):Int)+Q7 (4+Q7 (Q7 (Int.tdiv (Q7 ((x.fValue.size:Int)+3)) 4) * 4))),Q7 ((k:Int)+1))=_
  rw[e1,e2,Y9 (n:=((x.fValue.size / 4:Nat):Int)) (by omega) (by omega),Y9 (n:=((x.fValue.size / 4:Nat):Int) * 4) (by omega) (by omega),Y9 (n:=4+((x.fValue.size / 4:Nat):Int) * 4) (by omega) (by omega),Y9 (n:=((Z8 (l.take k):Nat):Int)+(4+((x.fValue.size / 4:Nat):Int) * 4)) (by omega) (by omega),U1 hk (by omega)]
  congr 1
  omega
 ·subst hy
  refine Ok.brF (by rw[W5];simp) (Ok.done ?_)
  show ((Z8 (l.take l.length):Nat):Int)=_
  rw[List.take_length]
def MsgOk (m:H8):Prop:=(0≤m.fClass∧m.fClass≤3)∧(0≤m.fMethod∧m.fMethod≤4095)∧m.fId.size=12∧m.fAttrs.length≤30∧(∀a,a∈m.fAttrs→G0 a)∧20+Z8 m.fAttrs≤1200
theorem T8 (m:H8) (h:MsgOk m):SOk (s118 m) (fun r=>r=0):=by
 obtain⟨⟨a1,a2⟩,⟨a3,a4⟩,a5,a6,a7,a8⟩:=h
 unfold s118
 show Ok (g118 m) _
 refine Ok.cnd (R:=fun c=>c=false) ?_ fun c hc=>?_
 ·refine Ok.brF (by simp;omega) (Ok.brF (by simp;omega) (Ok.brF (by simp;omega) (Ok.brF (by simp;omega) (Ok.brF (by rw[a5];rfl) (Ok.done ?_)))))
  rw[W5];simp;omega
 subst hc
 refine Ok.brF rfl (Ok.bind2 (R:=fun e=>e=.inr ()) ?_ (fun e he=>by cases he) fun e he=>?_)
 ·refine Ok.scan m.fAttrs.length (by omega) (fun k y=>y=(k:Int)) rfl (fun k y hy hk=>?_) fun y hy=>?_
  ·subst hy
   refine Ok.brT (by rw[W5];simp;omega) ?_
   obtain⟨x,hx,hx'⟩:=A7 (l:=m.fAttrs) (k:=k) hk
   obtain⟨⟨b1,b2⟩,b3,_⟩:=a7 x (List.mem_of_getElem? hx')
   refine Ok.row (by simp) hx (Ok.cnd (R:=fun c=>c=false) ?_ fun c hc=>?_)
   ·refine Ok.brF (by simp;omega) (Ok.brF (by simp;omega) (Ok.done ?_))
    simp;omega
   ·subst hc
    exact Ok.brF rfl (Ok.done (U1 hk (by omega)))
  ·subst hy
   exact Ok.brF (by rw[W5];simp) (Ok.done rfl)
 ·refine Ok.call (okSSIZE m.fAttrs a7 (by omega)) fun r hr=>?_
  subst hr
  refine Ok.brF ?_ (Ok.done rfl)
  rw[Y9 (by omega) (by omega)]
  simp;omega
theorem okSIDX (l:List Q4) (k:Int) (hl:l.length≤1000):SOk (s133 l k) (fun r=>Find l (fun a=>a.fKind=k) r):=by
 unfold s133
 show Ok (g133 l k) _
 refine Ok.bind2 (R:=fun e=>Find l (fun a=>a.fKind=k) (match e with|.inl r=>r|.inr _=>-1)) ?_ (fun e he=>Ok.done he) (fun e he=>Ok.done he)
 refine Ok.scan l.length (by omega) (fun i y=>y=(i:Int)∧∀j x,j < i→l[j]?=some x→¬x.fKind=k) ⟨rfl,fun j _ hj=>absurd hj (Nat.not_lt_zero _)⟩ (fun i y hy hi=>?_) fun y hy=>?_
 ·obtain⟨rfl,hup⟩:=hy
  refine Ok.brT (by rw[W5];simp;omega) ?_
  obtain⟨x,hx,hx'⟩:=A7 (l:=l) (k:=i) hi
  refine Ok.row (by simp) hx (Ok.call (R:=fun r=>r=(x.fKind==k)) ⟨_,rfl,rfl⟩ fun r hr=>?_)
  subst hr
  refine Ok.br (fun hc=>Ok.done ?_) fun hc=>Ok.done ?_
  ·exact .inl ⟨i,x,rfl,hx',by simpa using hc,hup⟩
  ·refine⟨U1 hi (by omega),upto2 hup hx' (by simpa using hc)⟩
 ·obtain⟨rfl,hup⟩:=hy
  exact Ok.brF (by rw[W5];simp) (Ok.done (.inr ⟨rfl,none_of_upto hup⟩))
theorem okSIDX8 (l:List Q4) (hl:l.length≤1000):SOk (s133_1 l) (fun r=>Find l (fun a=>a.fKind=8) r):=by
 unfold s133_1
 show Ok (g133_1 l) _
 refine Ok.bind2 (R:=fun e=>Find l (fun a=>a.fKind=8) (match e with|.inl r=>r|.inr _=>-1)) ?_ (fun e he=>Ok.done he) (fun e he=>Ok.done he)
 refine Ok.scan l.length (by omega) (fun i y=>y=(i:Int)∧∀j x,j < i→l[j]?=some x→¬x.fKind=8) ⟨rfl,fun j _ hj=>absurd hj (Nat.not_lt_zero _)⟩ (fun i y hy hi=>?_) fun y hy=>?_
 ·obtain⟨rfl,hup⟩:=hy
  refine Ok.brT (by rw[W5];simp;omega) ?_
  obtain⟨x,hx,hx'⟩:=A7 (l:=l) (k:=i) hi
  refine Ok.row (by simp) hx (Ok.call (R:=fun r=>r=(x.fKind==8)) ⟨_,rfl,rfl⟩ fun r hr=>?_)
  subst hr
  refine Ok.br (fun hc=>Ok.done ?_) fun hc=>Ok.done ?_
  ·exact .inl ⟨i,x,rfl,hx',by simpa using hc,hup⟩
  ·refine⟨U1 hi (by omega),upto2 hup hx' (by simpa using hc)⟩
 ·obtain⟨rfl,hup⟩:=hy
  exact Ok.brF (by rw[W5];simp) (Ok.done (.inr ⟨rfl,none_of_upto hup⟩))
theorem okSHAS (m:H8) (k:Int) (hl:m.fAttrs.length≤1000):SOk (s119 m k) (fun r=>(r=true↔∃a,a∈m.fAttrs∧a.fKind=k)):=by
 unfold s119
 show Ok (g119 m k) _
 refine Ok.view (R:=fun r=>(r=true↔∃a,a∈m.fAttrs∧a.fKind=k)) ?_ fun r hr=>Ok.done hr
 unfold s194
 show Ok (g194 m.fAttrs k) _
 refine Ok.call (okSIDX m.fAttrs k hl) fun r hr=>Ok.done ?_
 rw[decide_eq_true_iff]
 exact hr.nonneg
def u16 (v:Int):ByteArray:=strOfNums (beN 2 v)
def encA (a:Q4):ByteArray:=u16 a.fKind++u16 (a.fValue.size:Nat)++a.fValue
def M1:List Q4→ByteArray
 | []=>ByteArray.empty
 | a :: l=>encA a++M1 l
def headB (kd:Int) (n:Int) (id:ByteArray):ByteArray:=u16 kd++u16 n++strOfNums (beN 4 554869826)++id
theorem H4 (v:Int):(u16 v).size=2:=by unfold u16;rw[U4,K0]
theorem encA_size (a:Q4):(encA a).size=4+a.fValue.size:=by
 unfold encA;rw[ByteArray.size_append,ByteArray.size_append,H4,H4]
theorem N9 (l:List Q4):(M1 l).size=Z8 l:=by
 induction l with
 | nil=>rfl
 | cons a l ih=>unfold Z8 at *;rw[M1,ByteArray.size_append,encA_size,ih];simp
theorem headB_size (kd n:Int) (id:ByteArray):(headB kd n id).size=8+id.size:=by
 unfold headB;rw[ByteArray.size_append,ByteArray.size_append,ByteArray.size_append,H4,H4,U4,K0]
theorem wsM_eq {s t:ByteArray} (h:s.size+t.size≤1000000):wsM s t=some (s++t):=if_pos (by omega)
theorem pt2_eq {v:Int} {s:ByteArray} (h0:0≤v) (h:v < 65536) (hs:s.size≤100000):ptM 2 v s=some (s++u16 v):=by
 obtain⟨r,h1,h2⟩:=okPUT2 v h0 h
 unfold ptM
 rw[show (g198 2 v).run=some r from h1,h2]
 exact wsM_eq (by show s.size+(u16 v).size≤_;rw[H4];omega)
theorem atM_eq {s:ByteArray} {a:Q4} (h:G0 a) (hs:s.size≤90000):atM s a=some (s++encA a):=by
 obtain⟨⟨h1,h2⟩,h3,h4⟩:=h
 obtain⟨r,k1,k2⟩:=okPAD a.fValue h4
 unfold atM
 rw[pt2_eq h1 h2 (by omega)]
 simp only[Option.bind_some]
 rw[pt2_eq (by omega) (by omega) (by rw[ByteArray.size_append,H4];omega)]
 simp only[Option.bind_some]
 rw[show (g205 a.fValue 4).run=some r from k1,k2]
 simp only[Option.bind_some]
 rw[wsM_eq (by rw[ByteArray.size_append,ByteArray.size_append,H4,H4];omega)]
 unfold encA
 simp only[ByteArray.append_assoc]
theorem foldAt {l:List Q4}:∀{s:ByteArray},(∀a,a∈l→G0 a)→s.size+767 * l.length≤90000→l.foldlM atM s=some (s++M1 l):=by
 induction l with
 | nil=>intro s _ _;rw[M1,ByteArray.append_empty];rfl
 | cons a l ih=>
  intro s h hs
  have ha:=h a List.mem_cons_self
  rw[List.length_cons] at hs
  rw[List.foldlM_cons,atM_eq ha (by omega)]
  show l.foldlM atM (s++encA a)=_
  rw[ih (fun x hx=>h x (List.mem_cons_of_mem _ hx)) (by rw[ByteArray.size_append,encA_size];have:=ha.2.1;omega),M1,ByteArray.append_assoc]
theorem written_eq {c m kd more:Int} {id:ByteArray} {l:List Q4} (hk:(g204 c m).run=some kd) (h0:0≤kd) (h1:kd < 65536) (hid:id.size=12) (hl:l.length≤30) (ha:∀a,a∈l→G0 a) (hm:0≤more∧more≤100) :
  writtenM c m id l more=some (headB kd ((Z8 l:Nat)+more) id++M1 l):=by
 obtain⟨z,k1,k2⟩:=okSSIZE l ha (by omega)
 have hz:=sizeL_le ha
 obtain⟨q,q1,q2⟩:=okPUT4 554869826 (by decide) (by decide)
 have hd:hdM c m id l more=some (headB kd ((Z8 l:Nat)+more) id):=by
  unfold hdM
  rw[hk]
  simp only[Option.bind_some]
  rw[pt2_eq h0 h1 (by decide)]
  simp only[Option.bind_some]
  rw[show (g193 l).run=some z from k1,k2]
  simp only[Option.bind_some]
  rw[Y9 (by omega) (by omega),pt2_eq (by omega) (by omega) (by rw[ByteArray.size_append,H4];decide)]
  simp only[Option.bind_some]
  unfold ptM
  rw[show (g198 4 554869826).run=some q from q1,q2]
  simp only[Option.bind_some]
  rw[wsM_eq (by simp only[ByteArray.size_append,H4,U4,K0];decide)]
  simp only[Option.bind_some]
  rw[wsM_eq (by simp only[ByteArray.size_append,H4,U4,K0,hid];decide)]
  unfold headB
  rw[ByteArray.empty_append]
 unfold writtenM
 rw[hd]
 simp only[Option.bind_some]
 rw[foldAt ha (by rw[headB_size,hid];omega)]
 simp only[Option.bind_some]
 rw[if_neg (by rw[ByteArray.size_append,headB_size,hid];omega)]
theorem okWRITTEN (m:H8) (l:List Q4) (more kd:Int) (hk:(g204 m.fClass m.fMethod).run=some kd) (h0:0≤kd) (h1:kd < 65536) (hid:m.fId.size=12) (hl:l.length≤30) (ha:∀a,a∈l→G0 a) (hm:0≤more∧more≤100) :
  SOk (s126 m l more) (fun r=>r=headB kd ((Z8 l:Nat)+more) m.fId++M1 l):=⟨_,written_eq hk h0 h1 hid hl ha hm,rfl⟩
end Go.Proofs.YtjpahkpfkohfkaaGreatDoor
