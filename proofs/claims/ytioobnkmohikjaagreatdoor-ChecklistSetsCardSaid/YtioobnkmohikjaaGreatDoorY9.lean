/- Guides and contracts, printed by a program.
   When a candidate is valid: the program and its reference hold one condition. No conditions.
   When a checklist is valid: the program and its reference hold one condition; what pairs have in common, their priorities. No conditions.
   Next, Settled, Turn and Set: the program and its reference come to the same for every list. No conditions.
   Guides and contracts, printed by a program.
   Next: the program and its reference come to the same for every list; Same says yes to what is equal. No conditions but on lengths. -/
import Derived.Test.YtioobnkmohikjaaGreatDoorY8
import Derived.Test.YtioobnkmohikjaaGreatDoorY6
import Derived.Test.YtioobnkmohikjaaGreatDoorY7
import Derived.KernelRfl
namespace Go.Proofs.YtioobnkmohikjaaGreatDoor
open Go Go.EV
set_option maxRecDepth 100000
structure SEnt86 where
 fk : SLike
 fv : Bool
structure SEnt104 where
 fk : S2String
 fv : Bool
def tySEnt86 : Ty SEnt86 := ⟨fun x => [.str x.fk.fbase.fHost, .int .i64 x.fk.fbase.fPort, .str x.fk.faddr.fHost, .int .i64 x.fk.faddr.fPort, .int .i64 x.fk.fcomponent, .bool x.fv], fun x => [.str x.fk.fbase.fHost, .int .i64 x.fk.fbase.fPort, .str x.fk.faddr.fHost, .int .i64 x.fk.faddr.fPort, .int .i64 x.fk.fcomponent, .bool x.fv], fun _ => rfl, fun _ => rfl, fun _ _ => rfl, fun _ => rfl⟩
def tySEnt104 : Ty SEnt104 := ⟨fun x => [.str x.fk.a0, .str x.fk.a1, .bool x.fv], fun x => [.str x.fk.a0, .str x.fk.a1, .bool x.fv], fun _ => rfl, fun _ => rfl, fun _ _ => rfl, fun _ => rfl⟩
noncomputable def g62 (p0 : SCandidate) : TT (Bool) :=
 .call 1002 (s63 p0) [] [] fun r160 =>
 .done (r160 != 0)
theorem k62 (p0 : SCandidate) : FnD Tryz.prog GG [0, 1, 2] Tryz.f62 [.agg [.int .i64 p0.fKind, .int .i64 p0.fComponent, .int .i64 p0.fPriority, .str p0.fFoundation, .str p0.fAddr.fHost, .int .i64 p0.fAddr.fPort, .str p0.fBase.fHost, .int .i64 p0.fBase.fPort]] (g62 p0) (fun r => .bool r) := by unfold FnD; kernel_rfl
noncomputable def s62 (p0 : SCandidate) : EV.Spec Tryz.prog GG (Bool) := .ofFn 62 mixed Tryz.func62 (k62 p0)
noncomputable def g74 (p0 : (List SCandidate)) : TT (Int) :=
 .bind2 1
 (.lp (fun (l161 : Int) => Ext.lit .normal [(0, .sl false 8 (List.map tySCandidate.c p0)), (1, .fn 62 [] []), (4, .int .i64 0), (7, .int .i64 (mlen tySCandidate p0)), (8, .int .i64 l161)] [])
  (fun l161 =>
   .br 0 (decide (l161 < (mlen tySCandidate p0)))
   (.row 4004 tySCandidate p0 l161.toNat (decide (0 ≤ l161)) fun x162 =>
    .call 4006 (s62 x162) [] [] fun r163 =>
    .br 0 r163
    (.done (.inr (.inl l161)))
    (.done (.inl (wi64 (l161 + 1)))))
   (.done (.inr (.inr ()))))
  0)
 (fun (e164 : Int) => Ext.lit .ret [(4, .int .i64 e164)] [])
 (fun (_ : Unit) => Ext.lit (.exit 0) [(4, .int .i64 0)] [])
 (fun e164 =>
  .done e164)
 (fun _ =>
  .done (-1))
theorem k74 (p0 : (List SCandidate)) : FnD Tryz.prog GG [0, 1, 4, 5, 7, 8, 9, 16] Tryz.f74 [.sl false 8 (List.map tySCandidate.c p0), .fn 62 [] []] (g74 p0) (fun r => .int .i64 r) := by unfold FnD; kernel_rfl
noncomputable def s74 (p0 : (List SCandidate)) : EV.Spec Tryz.prog GG (Int) := .ofFn 74 mixed Tryz.func74 (k74 p0)
noncomputable def g61 (p0 : (List SCandidate)) : TT (Bool) :=
 .call 1003 (s74 p0) [] [] fun r166 =>
 .done (decide ((0 : Int) ≤ r166))
theorem k61 (p0 : (List SCandidate)) : FnD Tryz.prog GG [0, 1, 4] Tryz.f61 [.sl false 8 (List.map tySCandidate.c p0), .fn 62 [] []] (g61 p0) (fun r => .bool r) := by unfold FnD; kernel_rfl
noncomputable def s61 (p0 : (List SCandidate)) : EV.Spec Tryz.prog GG (Bool) := .ofFn 61 mixed Tryz.func61 (k61 p0)
noncomputable def g30 (p0 : (List SCandidate)) : TT (Bool) :=
 .call 1002 (s61 p0) [] [] fun r167 =>
 .done (!r167)
theorem k30 (p0 : (List SCandidate)) : FnD Tryz.prog GG [0, 2] Tryz.f30 [.sl false 8 (List.map tySCandidate.c p0)] (g30 p0) (fun r => .bool r) := by unfold FnD; kernel_rfl
noncomputable def s30 (p0 : (List SCandidate)) : EV.Spec Tryz.prog GG (Bool) := .ofFn 30 mixed Tryz.func30 (k30 p0)
noncomputable def g50 (p0 : SPair) : TT (Int) :=
 .done p0.fPriority
theorem k50 (p0 : SPair) : FnD Tryz.prog GG [0, 1, 2] Tryz.f50 [.agg [.int .i64 p0.fLocal, .int .i64 p0.fRemote, .int .i64 p0.fPriority, .int .i64 p0.fState]] (g50 p0) (fun r => .int .i64 r) := by unfold FnD; kernel_rfl
noncomputable def s50 (p0 : SPair) : EV.Spec Tryz.prog GG (Int) := .ofFn 50 mixed Tryz.func50 (k50 p0)
noncomputable def g52 (p0 : SPair) : TT (Bool) :=
 .done (p0.fState == 1)
theorem k52 (p0 : SPair) : FnD Tryz.prog GG [0, 1, 2] Tryz.f52 [.agg [.int .i64 p0.fLocal, .int .i64 p0.fRemote, .int .i64 p0.fPriority, .int .i64 p0.fState]] (g52 p0) (fun r => .bool r) := by unfold FnD; kernel_rfl
noncomputable def s52 (p0 : SPair) : EV.Spec Tryz.prog GG (Bool) := .ofFn 52 mixed Tryz.func52 (k52 p0)
noncomputable def g54 (p0 : SPair) : TT (Bool) :=
 .done (decide (p0.fState < 3))
theorem k54 (p0 : SPair) : FnD Tryz.prog GG [0, 1, 2] Tryz.f54 [.agg [.int .i64 p0.fLocal, .int .i64 p0.fRemote, .int .i64 p0.fPriority, .int .i64 p0.fState]] (g54 p0) (fun r => .bool r) := by unfold FnD; kernel_rfl
noncomputable def s54 (p0 : SPair) : EV.Spec Tryz.prog GG (Bool) := .ofFn 54 mixed Tryz.func54 (k54 p0)
noncomputable def g46 (p0 : SList) : TT (SList) :=
 .call 1005 (s10 p0.fLocals) [] [] fun r168 =>
 .call 1008 (s10 p0.fRemotes) [] [] fun r169 =>
 .chk 1015 (decide (0 ≤ (if (40 : Int) < (mlen tySPair p0.fPairs) then (40 : Int) else (mlen tySPair p0.fPairs))) && decide ((if (40 : Int) < (mlen tySPair p0.fPairs) then (40 : Int) else (mlen tySPair p0.fPairs)) ≤ ((mlenn tySPair p0.fPairs) : Int))) (.re 1015 (ReW.cutHi 17 4 tySPair p0.fPairs ((if (40 : Int) < (mlen tySPair p0.fPairs) then (40 : Int) else (mlen tySPair p0.fPairs)).toNat)) (.done (SList.mk p0.fControlling r168 r169 (p0.fPairs.take ((if (40 : Int) < (mlen tySPair p0.fPairs) then (40 : Int) else (mlen tySPair p0.fPairs)).toNat)))))
theorem k46 (p0 : SList) : FnD Tryz.prog GG [0, 1, 2] Tryz.f46 [.agg [.bool p0.fControlling, .sl false 8 (List.map tySCandidate.c p0.fLocals), .sl false 8 (List.map tySCandidate.c p0.fRemotes), .sl false 4 (List.map tySPair.c p0.fPairs)]] (g46 p0) (fun r => .agg [.bool r.fControlling, .sl false 8 (List.map tySCandidate.c r.fLocals), .sl false 8 (List.map tySCandidate.c r.fRemotes), .sl false 4 (List.map tySPair.c r.fPairs)]) := by unfold FnD; kernel_rfl
noncomputable def s46 (p0 : SList) : EV.Spec Tryz.prog GG (SList) := .ofFn 46 mixed Tryz.func46 (k46 p0)
noncomputable def g48 (p0 : SPlanner) : TT (Bool) :=
 .cnd 1 [48]
 (.br 1009 (decide ((12 : Int) < (mlen tySCandidate p0.fList.fLocals)))
  (.done true)
  (.br 1018 (decide ((12 : Int) < (mlen tySCandidate p0.fList.fRemotes)))
   (.done true)
   (.br 1027 (decide ((36 : Int) < (mlen tySPair p0.fList.fPairs)))
    (.done true)
    (.call 1032 (s30 p0.fList.fLocals) [] [] fun r170 =>
     .br 1036 (!r170)
     (.done true)
     (.call 1041 (s30 p0.fList.fRemotes) [] [] fun r171 =>
      .done (!r171))))))
 (fun (c172 : Bool) => [.bool c172]) fun c172 =>
 .br 0 c172
 (.done false)
 (.opr 3001 (Rule.makeMap 86 49 1114373 (by decide)) fun _ =>
  .bind2 1
  (.lp (fun (l183 : (List SEnt86) × Int) => Ext.of .normal [(0, .snap [.bool p0.fList.fControlling, .sl false 8 (List.map tySCandidate.c p0.fList.fLocals), .sl false 8 (List.map tySCandidate.c p0.fList.fRemotes), .sl false 4 (List.map tySPair.c p0.fList.fPairs)]), (2, .bool false), (3, .mp 49), (54, .sl false 4 (List.map tySPair.c p0.fList.fPairs)), (55, .int .i64 (mlen tySPair p0.fList.fPairs)), (56, .int .i64 l183.2)] [] [BT.of 49 tySEnt86 1114373 l183.1 true] (by rfl))
   (fun l183 =>
    .br 0 (decide (l183.2 < (mlen tySPair p0.fList.fPairs)))
    (.row 6001 tySPair p0.fList.fPairs l183.2.toNat (decide (0 ≤ l183.2)) fun x184 =>
     .cnd 7 [99]
     (.br 7005 (decide (x184.fLocal < 0))
      (.done true)
      (.br 7016 (decide ((mlen tySCandidate p0.fList.fLocals) ≤ x184.fLocal))
       (.done true)
       (.br 7021 (decide (x184.fRemote < 0))
        (.done true)
        (.br 7032 (decide ((mlen tySCandidate p0.fList.fRemotes) ≤ x184.fRemote))
         (.done true)
         (.br 7037 (decide (x184.fState < 0))
          (.done true)
          (.done (decide ((4 : Int) < x184.fState))))))))
     (fun (c185 : Bool) => [.bool c185]) fun c185 =>
     .br 0 c185
     (.done (.inr (.inl ())))
     (.cnd 9 [134]
      (.row 9008 tySCandidate p0.fList.fLocals x184.fLocal.toNat (decide (0 ≤ x184.fLocal)) fun x186 =>
       .row 9017 tySCandidate p0.fList.fRemotes x184.fRemote.toNat (decide (0 ≤ x184.fRemote)) fun x187 =>
       .call 9019 (s64 x186 x187) [] [] fun r188 =>
       .br 9022 (!r188)
       (.done true)
       (.call 9026 (s56 p0 x184) [] [] fun r189 =>
        .br 9030 (x184.fPriority != r189)
        (.done true)
        (.call 9033 (s36 p0 x184) [] [] fun r190 =>
         .opr 9034 (Rule.look (mt := 86) (kt := 88) (et := 4) (z := 1114373) (ty := tySEnt86) (p := (fun x => ((decide (r190.fbase.fHost = x.fk.fbase.fHost)) && ((r190.fbase.fPort == x.fk.fbase.fPort) && ((decide (r190.faddr.fHost = x.fk.faddr.fHost)) && ((r190.faddr.fPort == x.fk.faddr.fPort) && ((r190.fcomponent == x.fk.fcomponent) && true))))))) (kc := [.str r190.fbase.fHost, .int .i64 r190.fbase.fPort, .str r190.faddr.fHost, .int .i64 r190.faddr.fPort, .int .i64 r190.fcomponent]) (.tmp 129) (.tmp 132) 133 49 true l183.1 (.bool false) (.bool (mlook l183.1 (fun x => ((decide (r190.fbase.fHost = x.fk.fbase.fHost)) && ((r190.fbase.fPort == x.fk.fbase.fPort) && ((decide (r190.faddr.fHost = x.fk.faddr.fHost)) && ((r190.faddr.fPort == x.fk.faddr.fPort) && ((r190.fcomponent == x.fk.fcomponent) && true)))))) (fun x => x.fv) false)) ⟨by kernel_rfl, by kernel_rfl, by kernel_rfl, fun _ => by kernel_rfl⟩ (by kernel_rfl) (mlook_map _ _ (fun x : SEnt86 => x.fv) false V.bool)) fun _ =>
         .done (mlook l183.1 (fun x => ((decide (r190.fbase.fHost = x.fk.fbase.fHost)) && ((r190.fbase.fPort == x.fk.fbase.fPort) && ((decide (r190.faddr.fHost = x.fk.faddr.fHost)) && ((r190.faddr.fPort == x.fk.faddr.fPort) && ((r190.fcomponent == x.fk.fcomponent) && true)))))) (fun x => x.fv) false))))
      (fun (c191 : Bool) => [.bool c191]) fun c191 =>
      .br 0 c191
      (.done (.inr (.inl ())))
      (.call 11004 (s36 p0 x184) [] [] fun r192 =>
       .opr 11005 (Rule.put (mt := 86) (kt := 88) (et := 4) (z := 1114373) (ty := tySEnt86) (p := (fun x => ((decide (r192.fbase.fHost = x.fk.fbase.fHost)) && ((r192.fbase.fPort == x.fk.fbase.fPort) && ((decide (r192.faddr.fHost = x.fk.faddr.fHost)) && ((r192.faddr.fPort == x.fk.faddr.fPort) && ((r192.fcomponent == x.fk.fcomponent) && true))))))) (kc := [.str r192.fbase.fHost, .int .i64 r192.fbase.fPort, .str r192.faddr.fHost, .int .i64 r192.faddr.fPort, .int .i64 r192.fcomponent]) (.tmp 135) (.tmp 138) (.const (.bool true)) 49 l183.1 (SEnt86.mk r192 true) [.bool true] ⟨by kernel_rfl, by kernel_rfl, by kernel_rfl, fun _ => by kernel_rfl⟩ (by rfl) (by kernel_rfl) (by kernel_rfl) (by decide) (by decide)) fun _ =>
       .done (.inl ((mput l183.1 (fun x => ((decide (r192.fbase.fHost = x.fk.fbase.fHost)) && ((r192.fbase.fPort == x.fk.fbase.fPort) && ((decide (r192.faddr.fHost = x.fk.faddr.fHost)) && ((r192.faddr.fPort == x.fk.faddr.fPort) && ((r192.fcomponent == x.fk.fcomponent) && true)))))) (SEnt86.mk r192 true)), (wi64 (l183.2 + 1)))))))
    (.done (.inr (.inr ()))))
   ([], 0))
  (fun (e193 : Unit) => Ext.lit .ret [(2, .bool false)] [])
  (fun (e194 : Unit) => Ext.lit (.exit 0) [(2, .bool false)] [])
  (fun e193 =>
   .done false)
  (fun e194 =>
   .done true))
theorem k48 (p0 : SPlanner) : FnD Tryz.prog GG [0, 2, 3, 5, 48, 54, 55, 56, 57, 99, 134] Tryz.f48 [.snap [.bool p0.fList.fControlling, .sl false 8 (List.map tySCandidate.c p0.fList.fLocals), .sl false 8 (List.map tySCandidate.c p0.fList.fRemotes), .sl false 4 (List.map tySPair.c p0.fList.fPairs)]] (g48 p0) (fun r => .bool r) := by unfold FnD; kernel_rfl
noncomputable def s48 (p0 : SPlanner) : EV.Spec Tryz.prog GG (Bool) := .ofFn 48 mixed Tryz.func48 (k48 p0)
noncomputable def g69 (p0 : (List SPair)) : TT Unit := .app 3003 tySPair [] p0 32 true (by intros; rfl) (.done ())
theorem k69y : Piece Tryz.prog GG [2] 8 (cloneYes Tryz.f69.body) (Ext.lit .normal [(2, .nilsl)] []) (.done () : TT Unit) (fun _ => Ext.lit .ret [(2, .nilsl)] []) := by unfold Piece; kernel_rfl
theorem k69r (p0 : (List SPair)) : Piece Tryz.prog GG [0, 2, 5, 6, 7] 8 (cloneRest Tryz.f69.body) (Ext.lit .normal [(0, .sl false 4 (List.map tySPair.c p0)), (2, .nilsl)] []) (g69 p0) (fun _ => Ext.of .ret [(2, .ref 7 0 ([] ++ p0).length)] [] [BT.of 7 tySPair 4 ([] ++ p0)] (by rfl)) := by unfold Piece; kernel_rfl
theorem k69 (p0 : (List SPair)) {r : Unit} (h : (g69 p0).run = some r) : CallC Tryz.prog GG 69 [.sl false 4 (List.map tySPair.c p0)] (ofL []) (.ref 7 0 p0.length) (ofL [(7, ⟨4, true, List.map tySPair.c p0⟩)]) :=
 clone_ok (ty := tySPair) (ops0 := cloneOps0 Tryz.f69.body) (ops1 := cloneOps1 Tryz.f69.body) (yes := cloneYes Tryz.f69.body) (rest := cloneRest Tryz.f69.body) (t := 39) mixed (by decide) Tryz.func69 (by kernel_rfl) (by kernel_rfl) (by kernel_rfl) (by kernel_rfl) (by kernel_rfl) (by kernel_rfl) (by kernel_rfl) (by kernel_rfl) (by kernel_rfl) k69y (k69r p0) (by rfl) h
noncomputable def s69 (p0 : (List SPair)) : EV.Spec Tryz.prog GG Unit := ⟨69, [.sl false 4 (List.map tySPair.c p0)], [], (g69 p0).run, fun _ => .ref 7 0 p0.length, fun _ => [(7, ⟨4, true, List.map tySPair.c p0⟩)], [7], fun _ p hp _ => by
 rw [List.mem_singleton.1 hp]; exact tySPair.data _, fun _ h => k69 p0 h⟩
noncomputable def g49 (p0 : SList) : TT ((Unit) ⊕ (Unit)) :=
 .view 2002 (s48 (SPlanner.mk p0)) [] fun r195 =>
 .br 0 (!r195)
 (.done (.inl ()))
 (.call 4004 (s69 p0.fPairs) [] [(7, 500009)] fun _ =>
  .done (.inr ()))
theorem k49 (p0 : SList) : FnB Tryz.prog GG [0, 1, 2, 3, 4, 10] Tryz.f49 [.agg [.bool p0.fControlling, .sl false 8 (List.map tySCandidate.c p0.fLocals), .sl false 8 (List.map tySCandidate.c p0.fRemotes), .sl false 4 (List.map tySPair.c p0.fPairs)]] (Ext.of .normal (argTs [.agg [.bool p0.fControlling, .sl false 8 (List.map tySCandidate.c p0.fLocals), .sl false 8 (List.map tySCandidate.c p0.fRemotes), .sl false 4 (List.map tySPair.c p0.fPairs)]]) [] [] (by rfl)) (g49 p0) (Sum.elim (fun (_ : Unit) => .tup [.nilp, .int .i64 100]) (fun (_ : Unit) => .tup [.ptr 7 0 0, .int .i64 0])) (Sum.elim (fun (_ : Unit) => Ext.of .normal [] [] [] (by rfl)) (fun (_ : Unit) => Ext.of .normal [] [(7, ⟨4, true, [[.bool p0.fControlling, .sl false 8 (List.map tySCandidate.c p0.fLocals), .sl false 8 (List.map tySCandidate.c p0.fRemotes), .ref 500009 0 p0.fPairs.length]]⟩)] [BT.of 500009 tySPair 4 p0.fPairs true] (by rfl))) := by unfold FnB; kernel_rfl
noncomputable def s49 (p0 : SList) : EV.Spec Tryz.prog GG ((Unit) ⊕ (Unit)) := .ofFnB 49 [500009] mixed Tryz.func49 rfl (fun r => by cases r <;> rfl) (k49 p0)
noncomputable def g15 (p0 : SList) : TT (Bool) :=
 .cnd 1 [33]
 (.br 1006 (decide ((12 : Int) < (mlen tySCandidate p0.fLocals)))
  (.done true)
  (.br 1012 (decide ((12 : Int) < (mlen tySCandidate p0.fRemotes)))
   (.done true)
   (.br 1018 (decide ((36 : Int) < (mlen tySPair p0.fPairs)))
    (.done true)
    (.call 1020 (s39 p0.fLocals) [] [] fun r197 =>
     .br 1024 (!r197)
     (.done true)
     (.call 1026 (s39 p0.fRemotes) [] [] fun r198 =>
      .done (!r198))))))
 (fun (c199 : Bool) => [.bool c199]) fun c199 =>
 .br 0 c199
 (.done false)
 (.bind2 1
  (.lp (fun (l207 : Int) => Ext.lit .normal [(1, .ptr 1 0 0), (2, .bool false), (3, .int .i64 l207)] [(1, ⟨4, true, [[.bool p0.fControlling, .sl false 8 (List.map tySCandidate.c p0.fLocals), .sl false 8 (List.map tySCandidate.c p0.fRemotes), .sl false 4 (List.map tySPair.c p0.fPairs)]]⟩)])
   (fun l207 =>
    .br 0 (decide (l207 < (mlen tySPair p0.fPairs)))
    (.row 6004 tySPair p0.fPairs l207.toNat (decide (0 ≤ l207)) fun x208 =>
     .cnd 7 [103]
     (.br 7005 (decide (x208.fLocal < 0))
      (.done true)
      (.br 7013 (decide ((mlen tySCandidate p0.fLocals) ≤ x208.fLocal))
       (.done true)
       (.br 7018 (decide (x208.fRemote < 0))
        (.done true)
        (.br 7026 (decide ((mlen tySCandidate p0.fRemotes) ≤ x208.fRemote))
         (.done true)
         (.br 7031 (decide (x208.fState < 0))
          (.done true)
          (.br 7036 (decide ((4 : Int) < x208.fState))
           (.done true)
           (.row 7040 tySCandidate p0.fLocals x208.fLocal.toNat (decide (0 ≤ x208.fLocal)) fun x209 =>
            .row 7046 tySCandidate p0.fRemotes x208.fRemote.toNat (decide (0 ≤ x208.fRemote)) fun x210 =>
            .call 7048 (s40 x209 x210) [] [] fun r211 =>
            .br 7052 (!r211)
            (.done true)
            (.call 7056 (s41 p0 x208) [] [] fun r212 =>
             .done (x208.fPriority != r212)))))))))
     (fun (c213 : Bool) => [.bool c213]) fun c213 =>
     .br 0 c213
     (.done (.inr (.inl ())))
     (.bind2 1
      (.lp (fun (l217 : Int) => Ext.lit .normal [(1, .ptr 1 0 0), (2, .bool false), (3, .int .i64 l207), (4, .ptr 4 0 0), (5, .int .i64 l217)] [(1, ⟨4, true, [[.bool p0.fControlling, .sl false 8 (List.map tySCandidate.c p0.fLocals), .sl false 8 (List.map tySCandidate.c p0.fRemotes), .sl false 4 (List.map tySPair.c p0.fPairs)]]⟩), (4, ⟨4, true, [[.int .i64 x208.fLocal, .int .i64 x208.fRemote, .int .i64 x208.fPriority, .int .i64 x208.fState]]⟩)])
       (fun l217 =>
        .br 0 (decide (l217 < l207))
        (.row 12006 tySPair p0.fPairs l217.toNat (decide (0 ≤ l217)) fun x218 =>
         .call 12008 (s43 p0 x208 x218) [] [] fun r219 =>
         .br 0 r219
         (.done (.inr (.inl ())))
         (.done (.inl (wi64 (l217 + 1)))))
        (.done (.inr (.inr ()))))
       0)
      (fun (_ : Unit) => Ext.lit .ret [(1, .ptr 1 0 0), (2, .bool false), (3, .int .i64 l207)] [(1, ⟨4, true, [[.bool p0.fControlling, .sl false 8 (List.map tySCandidate.c p0.fLocals), .sl false 8 (List.map tySCandidate.c p0.fRemotes), .sl false 4 (List.map tySPair.c p0.fPairs)]]⟩)])
      (fun (_ : Unit) => Ext.lit (.exit 2) [(1, .ptr 1 0 0), (2, .bool false), (3, .int .i64 l207)] [(1, ⟨4, true, [[.bool p0.fControlling, .sl false 8 (List.map tySCandidate.c p0.fLocals), .sl false 8 (List.map tySCandidate.c p0.fRemotes), .sl false 4 (List.map tySPair.c p0.fPairs)]]⟩)])
      (fun _ =>
       .done (.inr (.inl ())))
      (fun _ =>
       .done (.inl (wi64 (l207 + 1))))))
    (.done (.inr (.inr ()))))
   0)
  (fun (_ : Unit) => Ext.lit .ret [(2, .bool false)] [])
  (fun (_ : Unit) => Ext.lit (.exit 0) [(2, .bool false)] [])
  (fun _ =>
   .done false)
  (fun _ =>
   .done true))
theorem k15 (p0 : SList) : FnD Tryz.prog GG [0, 1, 2, 3, 4, 5, 33, 38, 103, 106, 116] Tryz.f15 [.agg [.bool p0.fControlling, .sl false 8 (List.map tySCandidate.c p0.fLocals), .sl false 8 (List.map tySCandidate.c p0.fRemotes), .sl false 4 (List.map tySPair.c p0.fPairs)]] (g15 p0) (fun r => .bool r) := by unfold FnD; kernel_rfl
noncomputable def s15 (p0 : SList) : EV.Spec Tryz.prog GG (Bool) := .ofFn 15 mixed Tryz.func15 (k15 p0)
noncomputable def g16 (p0 : SList) : TT (Int) :=
 .view 2002 (s48 (SPlanner.mk p0)) [] fun r224 =>
 .br 0 (!r224)
 (.done 100)
 (.done 0)
theorem k16 (p0 : SList) : FnD Tryz.prog GG [0, 1, 2, 3, 9] Tryz.f16 [.agg [.bool p0.fControlling, .sl false 8 (List.map tySCandidate.c p0.fLocals), .sl false 8 (List.map tySCandidate.c p0.fRemotes), .sl false 4 (List.map tySPair.c p0.fPairs)]] (g16 p0) (fun r => .int .i64 r) := by unfold FnD; kernel_rfl
noncomputable def s16 (p0 : SList) : EV.Spec Tryz.prog GG (Int) := .ofFn 16 mixed Tryz.func16 (k16 p0)
noncomputable def g51 (p0 : (List SPair)) : TT (Int) :=
 .bind 1
 (.lp (fun (l231 : Int × Int) => Ext.lit .normal [(0, .sl false 4 (List.map tySPair.c p0)), (1, .fn 52 [] []), (2, .fn 50 [] []), (6, .int .i64 0), (7, .int .i64 l231.1), (10, .sl false 4 (List.map tySPair.c p0)), (11, .int .i64 (mlen tySPair p0)), (12, .int .i64 l231.2)] [])
  (fun l231 =>
   .br 0 (decide (l231.2 < (mlen tySPair p0)))
   (.row 4002 tySPair p0 l231.2.toNat (decide (0 ≤ l231.2)) fun x232 =>
    .cnd 5 [35]
    (.call 5003 (s52 x232) [] [] fun r233 =>
     .br 5005 r233
     (.br 5008 (decide (l231.1 < 0))
      (.done true)
      (.call 5010 (s50 x232) [] [] fun r234 =>
       .row 5014 tySPair p0 l231.1.toNat (decide (0 ≤ l231.1)) fun x235 =>
       .call 5016 (s50 x235) [] [] fun r236 =>
       .done (decide (r236 < r234))))
     (.done false))
    (fun (c237 : Bool) => [.bool c237]) fun c237 =>
    .br 0 c237
    (.done (.inl (l231.2, (wi64 (l231.2 + 1)))))
    (.done (.inl (l231.1, (wi64 (l231.2 + 1))))))
   (.done (.inr l231.1)))
  ((-1), 0))
 (fun (e238 : Int) => Ext.lit (.exit 0) [(6, .int .i64 0), (7, .int .i64 e238)] [])
 (fun e238 =>
  .done e238)
theorem k51 (p0 : (List SPair)) : FnD Tryz.prog GG [0, 1, 2, 6, 7, 8, 9, 10, 11, 12, 13, 35] Tryz.f51 [.sl false 4 (List.map tySPair.c p0), .fn 52 [] [], .fn 50 [] []] (g51 p0) (fun r => .int .i64 r) := by unfold FnD; kernel_rfl
noncomputable def s51 (p0 : (List SPair)) : EV.Spec Tryz.prog GG (Int) := .ofFn 51 mixed Tryz.func51 (k51 p0)
noncomputable def g53 (p0 : SPair) (p1 : (List SEnt104)) (p2 : Bool) (p3 : (List SCandidate)) (p4 : (List SCandidate)) (p5 : (List SPair)) : TT (Bool) :=
 .cnd 1 [4]
 (.br 1005 (p0.fState == 0)
  (.view 1008 (s37 (SPlanner.mk (SList.mk p2 p3 p4 p5)) p0) [(VwW.of 1000004 tySPair p5)] fun r249 =>
   .opr 1009 (Rule.look (mt := 104) (kt := 91) (et := 4) (z := 1114370) (ty := tySEnt104) (p := (fun x => ((decide (r249.a0 = x.fk.a0)) && ((decide (r249.a1 = x.fk.a1)) && true)))) (kc := [.str r249.a0, .str r249.a1]) (.tmp 9) (.tmp 12) 13 1000002 true p1 (.bool false) (.bool (mlook p1 (fun x => ((decide (r249.a0 = x.fk.a0)) && ((decide (r249.a1 = x.fk.a1)) && true))) (fun x => x.fv) false)) ⟨by kernel_rfl, by kernel_rfl, by kernel_rfl, fun _ => by kernel_rfl⟩ (by kernel_rfl) (mlook_map _ _ (fun x : SEnt104 => x.fv) false V.bool)) fun _ =>
   .done (!(mlook p1 (fun x => ((decide (r249.a0 = x.fk.a0)) && ((decide (r249.a1 = x.fk.a1)) && true))) (fun x => x.fv) false)))
  (.done false))
 (fun (c250 : Bool) => [.bool c250]) fun c250 =>
 .done c250
theorem k53 (p0 : SPair) (p1 : (List SEnt104)) (p2 : Bool) (p3 : (List SCandidate)) (p4 : (List SCandidate)) (p5 : (List SPair)) : FnB Tryz.prog GG [0, 1, 2, 3, 4] Tryz.f53 [.agg [.int .i64 p0.fLocal, .int .i64 p0.fRemote, .int .i64 p0.fPriority, .int .i64 p0.fState], .ptr 1000000 0 0, .ptr 1000001 0 0] (Ext.of .normal (argTs [.agg [.int .i64 p0.fLocal, .int .i64 p0.fRemote, .int .i64 p0.fPriority, .int .i64 p0.fState], .ptr 1000000 0 0, .ptr 1000001 0 0]) [(1000000, ⟨1, true, [[.mp 1000002]]⟩), (1000001, ⟨1, true, [[.ptr 1000003 0 0]]⟩), (1000003, ⟨4, true, [[.bool p2, .sl false 8 (List.map tySCandidate.c p3), .sl false 8 (List.map tySCandidate.c p4), .ref 1000004 0 p5.length]]⟩)] [BT.of 1000002 tySEnt104 1114370 p1 true, BT.of 1000004 tySPair 4 p5 true] (by rfl)) (g53 p0 p1 p2 p3 p4 p5) (fun (r : Bool) => .bool r) (fun (_ : Bool) => Ext.of .normal [] [(1000000, ⟨1, true, [[.mp 1000002]]⟩), (1000001, ⟨1, true, [[.ptr 1000003 0 0]]⟩), (1000003, ⟨4, true, [[.bool p2, .sl false 8 (List.map tySCandidate.c p3), .sl false 8 (List.map tySCandidate.c p4), .ref 1000004 0 p5.length]]⟩)] [BT.of 1000002 tySEnt104 1114370 p1 true, BT.of 1000004 tySPair 4 p5 true] (by rfl)) := by unfold FnB; kernel_rfl
noncomputable def s53 (p0 : SPair) (p1 : (List SEnt104)) (p2 : Bool) (p3 : (List SCandidate)) (p4 : (List SCandidate)) (p5 : (List SPair)) : EV.Spec Tryz.prog GG (Bool) := .ofFnB 53 [1000002, 1000004] mixed Tryz.func53 rfl (fun _ => rfl) (k53 p0 p1 p2 p3 p4 p5)
noncomputable def g51_1 (p0 : (List SPair)) (p1 : (List SEnt104)) (p2 : Bool) (p3 : (List SCandidate)) (p4 : (List SCandidate)) : TT (Int) :=
 .bind 1
 (.lp (fun (l251 : Int × Int) => Ext.of .normal [(0, .ref 1000000 0 p0.length), (1, .fn 53 [] [.ptr 1000001 0 0, .ptr 1000002 0 0]), (2, .fn 50 [] []), (6, .int .i64 0), (7, .int .i64 l251.1), (10, .ref 1000000 0 p0.length), (11, .int .i64 (p0.length : Int)), (12, .int .i64 l251.2)] [(1000001, ⟨1, true, [[.mp 1000003]]⟩), (1000002, ⟨1, true, [[.ptr 1000004 0 0]]⟩), (1000004, ⟨4, true, [[.bool p2, .sl false 8 (List.map tySCandidate.c p3), .sl false 8 (List.map tySCandidate.c p4), .ref 1000000 0 p0.length]]⟩)] [BT.of 1000000 tySPair 4 p0 true, BT.of 1000003 tySEnt104 1114370 p1 true] (by rfl))
  (fun l251 =>
   .br 0 (decide (l251.2 < (p0.length : Int)))
   (.chk 4002 (decide (0 ≤ l251.2) && decide (l251.2 < (p0.length : Int))) (.row 4003 tySPair p0 (0 + l251.2.toNat) true fun x252 =>
    .cnd 5 [35]
    (.opr 5003 (Rule.callRead (s53 x252 p1 p2 p3 p4 p0) (.tmp 17) #[.tmp 18] #[68] 19 [] [.agg [.int .i64 x252.fLocal, .int .i64 x252.fRemote, .int .i64 x252.fPriority, .int .i64 x252.fState]] [.ptr 1000001 0 0, .ptr 1000002 0 0] [(1000000, 1000001, ⟨1, true, [[.mp 1000003]]⟩), (1000001, 1000002, ⟨1, true, [[.ptr 1000004 0 0]]⟩), (1000003, 1000004, ⟨4, true, [[.bool p2, .sl false 8 (List.map tySCandidate.c p3), .sl false 8 (List.map tySCandidate.c p4), .ref 1000000 0 p0.length]]⟩)] [(1000002, BT.of 1000003 tySEnt104 1114370 p1 true), (1000004, BT.of 1000000 tySPair 4 p0 true)] [(1000000, 1000001), (1000001, 1000002), (1000003, 1000004), (1000002, 1000003), (1000004, 1000000)] (by kernel_rfl) (by kernel_rfl) (by kernel_rfl) (by kernel_rfl) (by kernel_rfl) (by kernel_rfl) (by kernel_rfl) (by kernel_rfl) (by kernel_rfl) (by kernel_rfl) (fun _ => by kernel_rfl) (fun _ => ⟨by kernel_rfl, by kernel_rfl⟩)) fun r253 =>
     .br 5005 r253
     (.br 5008 (decide (l251.1 < 0))
      (.done true)
      (.call 5010 (s50 x252) [] [] fun r254 =>
       .chk 5014 (decide (0 ≤ l251.1) && decide (l251.1 < (p0.length : Int))) (.row 5015 tySPair p0 (0 + l251.1.toNat) true fun x255 =>
       .call 5016 (s50 x255) [] [] fun r256 =>
       .done (decide (r256 < r254)))))
     (.done false))
    (fun (c257 : Bool) => [.bool c257]) fun c257 =>
    .br 0 c257
    (.done (.inl (l251.2, (wi64 (l251.2 + 1)))))
    (.done (.inl (l251.1, (wi64 (l251.2 + 1)))))))
   (.done (.inr l251.1)))
  ((-1), 0))
 (fun (e258 : Int) => Ext.lit (.exit 0) [(6, .int .i64 0), (7, .int .i64 e258)] [])
 (fun e258 =>
  .done e258)
theorem k51_1 (p0 : (List SPair)) (p1 : (List SEnt104)) (p2 : Bool) (p3 : (List SCandidate)) (p4 : (List SCandidate)) : FnB Tryz.prog GG [0, 1, 2, 6, 7, 8, 9, 10, 11, 12, 13, 35] Tryz.f51 [.ref 1000000 0 p0.length, .fn 53 [] [.ptr 1000001 0 0, .ptr 1000002 0 0], .fn 50 [] []] (Ext.of .normal (argTs [.ref 1000000 0 p0.length, .fn 53 [] [.ptr 1000001 0 0, .ptr 1000002 0 0], .fn 50 [] []]) [(1000001, ⟨1, true, [[.mp 1000003]]⟩), (1000002, ⟨1, true, [[.ptr 1000004 0 0]]⟩), (1000004, ⟨4, true, [[.bool p2, .sl false 8 (List.map tySCandidate.c p3), .sl false 8 (List.map tySCandidate.c p4), .ref 1000000 0 p0.length]]⟩)] [BT.of 1000000 tySPair 4 p0 true, BT.of 1000003 tySEnt104 1114370 p1 true] (by rfl)) (g51_1 p0 p1 p2 p3 p4) (fun (r : Int) => .int .i64 r) (fun (_ : Int) => Ext.of .normal [] [] [] (by rfl)) := by unfold FnB; kernel_rfl
noncomputable def s51_1 (p0 : (List SPair)) (p1 : (List SEnt104)) (p2 : Bool) (p3 : (List SCandidate)) (p4 : (List SCandidate)) : EV.Spec Tryz.prog GG (Int) := .ofFnB 51 [] mixed Tryz.func51 rfl (fun _ => rfl) (k51_1 p0 p1 p2 p3 p4)
noncomputable def g17 (p0 : SList) : TT (Int × Int) :=
 .call2 1002 (s49 p0) [] [(7, 500010), (500009, 500011)] (fun r225 =>
  .tt (.done (0, 100)))
 (fun r226 =>
  .ff (.view 5007 (s51 p0.fPairs) [(VwW.of 500011 tySPair p0.fPairs)] fun r239 =>
  .bind 0
  (.br 0 (decide (r239 < 0))
   (.opr 7001 (Rule.makeMap 104 28 1114370 (by decide)) fun _ =>
    .opr 7002 (Rule.allocAny 104 8 (by kernel_rfl)) fun _ =>
    .bind 1
    (.lp (fun (l243 : (List SEnt104) × Int) => Ext.of .normal [(2, .int .i64 0), (3, .int .i64 0), (4, .ptr 4 0 0), (6, .fn 50 [] []), (7, .int .i64 r239), (8, .ptr 8 0 0), (33, .ref 500011 0 p0.fPairs.length), (34, .int .i64 (p0.fPairs.length : Int)), (35, .int .i64 l243.2)] [(4, ⟨1, true, [[.ptr 500010 0 0]]⟩), (8, ⟨1, true, [[.mp 28]]⟩), (500010, ⟨4, true, [[.bool p0.fControlling, .sl false 8 (List.map tySCandidate.c p0.fLocals), .sl false 8 (List.map tySCandidate.c p0.fRemotes), .ref 500011 0 p0.fPairs.length]]⟩)] [BT.of 28 tySEnt104 1114370 l243.1 true, BT.of 500011 tySPair 4 p0.fPairs true] (by rfl))
     (fun l243 =>
      .br 0 (decide (l243.2 < (p0.fPairs.length : Int)))
      (.chk 10001 (decide (0 ≤ l243.2) && decide (l243.2 < (p0.fPairs.length : Int))) (.row 10002 tySPair p0.fPairs (0 + l243.2.toNat) true fun x244 =>
       .br 0 (x244.fState == 2)
       (.view 12004 (s37 (SPlanner.mk p0) x244) [(VwW.of 500011 tySPair p0.fPairs)] fun r245 =>
        .opr 12005 (Rule.put (mt := 104) (kt := 91) (et := 4) (z := 1114370) (ty := tySEnt104) (p := (fun x => ((decide (r245.a0 = x.fk.a0)) && ((decide (r245.a1 = x.fk.a1)) && true)))) (kc := [.str r245.a0, .str r245.a1]) (.tmp 42) (.tmp 45) (.const (.bool true)) 28 l243.1 (SEnt104.mk r245 true) [.bool true] ⟨by kernel_rfl, by kernel_rfl, by kernel_rfl, fun _ => by kernel_rfl⟩ (by rfl) (by kernel_rfl) (by kernel_rfl) (by decide) (by decide)) fun _ =>
        .done (.inl ((mput l243.1 (fun x => ((decide (r245.a0 = x.fk.a0)) && ((decide (r245.a1 = x.fk.a1)) && true))) (SEnt104.mk r245 true)), (wi64 (l243.2 + 1)))))
       (.done (.inl (l243.1, (wi64 (l243.2 + 1)))))))
      (.done (.inr (l243.1, r239))))
     ([], 0))
    (fun (e246 : (List SEnt104) × Int) => Ext.of (.exit 0) [(2, .int .i64 0), (3, .int .i64 0), (4, .ptr 4 0 0), (6, .fn 50 [] []), (7, .int .i64 e246.2), (8, .ptr 8 0 0)] [(4, ⟨1, true, [[.ptr 500010 0 0]]⟩), (8, ⟨1, true, [[.mp 28]]⟩), (500010, ⟨4, true, [[.bool p0.fControlling, .sl false 8 (List.map tySCandidate.c p0.fLocals), .sl false 8 (List.map tySCandidate.c p0.fRemotes), .ref 500011 0 p0.fPairs.length]]⟩)] [BT.of 28 tySEnt104 1114370 e246.1 true, BT.of 500011 tySPair 4 p0.fPairs true] (by rfl))
    (fun e246 =>
     .call 14008 (s51_1 p0.fPairs e246.1 p0.fControlling p0.fLocals p0.fRemotes) [(1000001, 8), (1000002, 4), (1000004, 500010), (1000000, 500011), (1000003, 28)] [] fun r259 =>
     .done r259))
   (.done r239))
  (fun (e260 : Int) => Ext.lit .normal [(2, .int .i64 0), (3, .int .i64 0), (7, .int .i64 e260)] [])
  (fun e260 =>
   .br 0 (decide (e260 < 0))
   (.done (0, 4))
   (.done (e260, 0)))))
theorem k17 (p0 : SList) : FnD Tryz.prog GG [0, 1, 2, 3, 4, 5, 6, 7, 8, 10, 17, 27, 33, 34, 35, 36, 41, 56] Tryz.f17 [.agg [.bool p0.fControlling, .sl false 8 (List.map tySCandidate.c p0.fLocals), .sl false 8 (List.map tySCandidate.c p0.fRemotes), .sl false 4 (List.map tySPair.c p0.fPairs)]] (g17 p0) (fun r => .tup [.int .i64 r.1, .int .i64 r.2]) := by unfold FnD; kernel_rfl
noncomputable def s17 (p0 : SList) : EV.Spec Tryz.prog GG (Int × Int) := .ofFn 17 mixed Tryz.func17 (k17 p0)
noncomputable def g18 (p0 : SList) : TT (Int × Int) :=
 .call 1002 (s15 p0) [] [] fun r261 =>
 .br 0 (!r261)
 (.done (0, 100))
 (.tt (.bind 2
  (.lp (fun (l268 : Int × Int) => Ext.lit .normal [(1, .ptr 1 0 0), (2, .int .i64 0), (3, .int .i64 0), (5, .int .i64 1), (6, .int .i64 l268.1), (7, .int .i64 l268.2), (13, .agg [.int .i64 1, .int .i64 0]), (14, .int .i64 0)] [(1, ⟨4, true, [[.bool p0.fControlling, .sl false 8 (List.map tySCandidate.c p0.fLocals), .sl false 8 (List.map tySCandidate.c p0.fRemotes), .sl false 4 (List.map tySPair.c p0.fPairs)]]⟩)])
   (fun l268 =>
    .br 0 (decide (l268.2 < (mlen tySPair p0.fPairs)))
    (.bind 2
     (.lp (fun (l270 : Int) => Ext.lit .normal [(1, .ptr 1 0 0), (2, .int .i64 0), (3, .int .i64 0), (5, .int .i64 1), (6, .int .i64 l268.1), (7, .int .i64 l268.2), (8, .bool false), (9, .int .i64 l270), (13, .agg [.int .i64 1, .int .i64 0]), (14, .int .i64 0)] [(1, ⟨4, true, [[.bool p0.fControlling, .sl false 8 (List.map tySCandidate.c p0.fLocals), .sl false 8 (List.map tySCandidate.c p0.fRemotes), .sl false 4 (List.map tySPair.c p0.fPairs)]]⟩)])
      (fun l270 =>
       .br 0 (decide (l270 < (mlen tySPair p0.fPairs)))
       (.done (.inl (wi64 (l270 + 1))))
       (.done (.inr ())))
      0)
     (fun (_ : Unit) => Ext.lit (.exit 4) [(1, .ptr 1 0 0), (2, .int .i64 0), (3, .int .i64 0), (5, .int .i64 1), (6, .int .i64 l268.1), (7, .int .i64 l268.2), (8, .bool false), (13, .agg [.int .i64 1, .int .i64 0]), (14, .int .i64 0)] [(1, ⟨4, true, [[.bool p0.fControlling, .sl false 8 (List.map tySCandidate.c p0.fLocals), .sl false 8 (List.map tySCandidate.c p0.fRemotes), .sl false 4 (List.map tySPair.c p0.fPairs)]]⟩)])
     (fun _ =>
      .cnd 15 [89]
      (.row 15004 tySPair p0.fPairs l268.2.toNat (decide (0 ≤ l268.2)) fun x272 =>
       .br 15010 (x272.fState == 1)
       (.br 15017 (decide (l268.1 < 0))
        (.done true)
        (.row 15020 tySPair p0.fPairs l268.2.toNat (decide (0 ≤ l268.2)) fun x273 =>
         .row 15026 tySPair p0.fPairs l268.1.toNat (decide (0 ≤ l268.1)) fun x274 =>
         .done (decide (x274.fPriority < x273.fPriority))))
       (.done false))
      (fun (c275 : Bool) => [.bool c275]) fun c275 =>
      .br 0 c275
      (.done (.inl (l268.2, (wi64 (l268.2 + 1)))))
      (.done (.inl (l268.1, (wi64 (l268.2 + 1)))))))
    (.done (.inr l268.1)))
   ((-1), 0))
  (fun (e276 : Int) => Ext.lit (.exit 2) [(1, .ptr 1 0 0), (2, .int .i64 0), (3, .int .i64 0), (6, .int .i64 e276), (13, .agg [.int .i64 1, .int .i64 0]), (14, .int .i64 0)] [(1, ⟨4, true, [[.bool p0.fControlling, .sl false 8 (List.map tySCandidate.c p0.fLocals), .sl false 8 (List.map tySCandidate.c p0.fRemotes), .sl false 4 (List.map tySPair.c p0.fPairs)]]⟩)])
  (fun e276 =>
   .br 0 (decide ((0 : Int) ≤ e276))
   (.done (e276, 0))
   (.tt (.bind 2
    (.lp (fun (l293 : Int × Int) => Ext.lit .normal [(1, .ptr 1 0 0), (2, .int .i64 0), (3, .int .i64 0), (5, .int .i64 0), (6, .int .i64 l293.1), (7, .int .i64 l293.2), (13, .agg [.int .i64 1, .int .i64 0]), (14, .int .i64 1)] [(1, ⟨4, true, [[.bool p0.fControlling, .sl false 8 (List.map tySCandidate.c p0.fLocals), .sl false 8 (List.map tySCandidate.c p0.fRemotes), .sl false 4 (List.map tySPair.c p0.fPairs)]]⟩)])
     (fun l293 =>
      .br 0 (decide (l293.2 < (mlen tySPair p0.fPairs)))
      (.bind 2
       (.lp (fun (l300 : Bool × Int) => Ext.lit .normal [(1, .ptr 1 0 0), (2, .int .i64 0), (3, .int .i64 0), (5, .int .i64 0), (6, .int .i64 l293.1), (7, .int .i64 l293.2), (8, .bool l300.1), (9, .int .i64 l300.2), (13, .agg [.int .i64 1, .int .i64 0]), (14, .int .i64 1)] [(1, ⟨4, true, [[.bool p0.fControlling, .sl false 8 (List.map tySCandidate.c p0.fLocals), .sl false 8 (List.map tySCandidate.c p0.fRemotes), .sl false 4 (List.map tySPair.c p0.fPairs)]]⟩)])
        (fun l300 =>
         .br 0 (decide (l300.2 < (mlen tySPair p0.fPairs)))
         (.cnd 14 [8]
          (.br 14003 l300.1
           (.done true)
           (.row 14009 tySPair p0.fPairs l300.2.toNat (decide (0 ≤ l300.2)) fun x301 =>
            .br 14015 (x301.fState == 2)
            (.row 14019 tySPair p0.fPairs l293.2.toNat (decide (0 ≤ l293.2)) fun x302 =>
             .row 14024 tySPair p0.fPairs l300.2.toNat (decide (0 ≤ l300.2)) fun x303 =>
             .call 14026 (s44 p0 x302 x303) [] [] fun r304 =>
             .done r304)
            (.done false)))
          (fun (c305 : Bool) => [.bool c305]) fun c305 =>
          .done (.inl (c305, (wi64 (l300.2 + 1)))))
         (.done (.inr l300.1)))
        (false, 0))
       (fun (e306 : Bool) => Ext.lit (.exit 4) [(1, .ptr 1 0 0), (2, .int .i64 0), (3, .int .i64 0), (5, .int .i64 0), (6, .int .i64 l293.1), (7, .int .i64 l293.2), (8, .bool e306), (13, .agg [.int .i64 1, .int .i64 0]), (14, .int .i64 1)] [(1, ⟨4, true, [[.bool p0.fControlling, .sl false 8 (List.map tySCandidate.c p0.fLocals), .sl false 8 (List.map tySCandidate.c p0.fRemotes), .sl false 4 (List.map tySPair.c p0.fPairs)]]⟩)])
       (fun e306 =>
        .cnd 15 [89]
        (.row 15004 tySPair p0.fPairs l293.2.toNat (decide (0 ≤ l293.2)) fun x307 =>
         .br 15010 (x307.fState == 0)
         (.br 15014 (!e306)
          (.br 15017 (decide (l293.1 < 0))
           (.done true)
           (.row 15020 tySPair p0.fPairs l293.2.toNat (decide (0 ≤ l293.2)) fun x308 =>
            .row 15026 tySPair p0.fPairs l293.1.toNat (decide (0 ≤ l293.1)) fun x309 =>
            .done (decide (x309.fPriority < x308.fPriority))))
          (.done false))
         (.done false))
        (fun (c310 : Bool) => [.bool c310]) fun c310 =>
        .br 0 c310
        (.done (.inl (l293.2, (wi64 (l293.2 + 1)))))
        (.done (.inl (l293.1, (wi64 (l293.2 + 1)))))))
      (.done (.inr l293.1)))
     ((-1), 0))
    (fun (e311 : Int) => Ext.lit (.exit 2) [(1, .ptr 1 0 0), (2, .int .i64 0), (3, .int .i64 0), (6, .int .i64 e311), (13, .agg [.int .i64 1, .int .i64 0]), (14, .int .i64 1)] [(1, ⟨4, true, [[.bool p0.fControlling, .sl false 8 (List.map tySCandidate.c p0.fLocals), .sl false 8 (List.map tySCandidate.c p0.fRemotes), .sl false 4 (List.map tySPair.c p0.fPairs)]]⟩)])
    (fun e311 =>
     .br 0 (decide ((0 : Int) ≤ e311))
     (.done (e311, 0))
     (.ff (.done (0, 4)))))))))
theorem k18 (p0 : SList) : FnD Tryz.prog GG [0, 1, 2, 3, 5, 6, 7, 8, 9, 12, 13, 14, 15, 21, 28, 89, 92] Tryz.f18 [.agg [.bool p0.fControlling, .sl false 8 (List.map tySCandidate.c p0.fLocals), .sl false 8 (List.map tySCandidate.c p0.fRemotes), .sl false 4 (List.map tySPair.c p0.fPairs)]] (g18 p0) (fun r => .tup [.int .i64 r.1, .int .i64 r.2]) := by unfold FnD; kernel_rfl
noncomputable def s18 (p0 : SList) : EV.Spec Tryz.prog GG (Int × Int) := .ofFn 18 mixed Tryz.func18 (k18 p0)
noncomputable def g70 (p0 : (List SPair)) : TT (Int) :=
 .bind2 1
 (.lp (fun (l317 : Int) => Ext.lit .normal [(0, .sl false 4 (List.map tySPair.c p0)), (1, .fn 54 [] []), (4, .int .i64 0), (7, .int .i64 (mlen tySPair p0)), (8, .int .i64 l317)] [])
  (fun l317 =>
   .br 0 (decide (l317 < (mlen tySPair p0)))
   (.row 4004 tySPair p0 l317.toNat (decide (0 ≤ l317)) fun x318 =>
    .call 4006 (s54 x318) [] [] fun r319 =>
    .br 0 r319
    (.done (.inr (.inl l317)))
    (.done (.inl (wi64 (l317 + 1)))))
   (.done (.inr (.inr ()))))
  0)
 (fun (e320 : Int) => Ext.lit .ret [(4, .int .i64 e320)] [])
 (fun (_ : Unit) => Ext.lit (.exit 0) [(4, .int .i64 0)] [])
 (fun e320 =>
  .done e320)
 (fun _ =>
  .done (-1))
theorem k70 (p0 : (List SPair)) : FnD Tryz.prog GG [0, 1, 4, 5, 7, 8, 9, 16] Tryz.f70 [.sl false 4 (List.map tySPair.c p0), .fn 54 [] []] (g70 p0) (fun r => .int .i64 r) := by unfold FnD; kernel_rfl
noncomputable def s70 (p0 : (List SPair)) : EV.Spec Tryz.prog GG (Int) := .ofFn 70 mixed Tryz.func70 (k70 p0)
noncomputable def g55 (p0 : (List SPair)) : TT (Bool) :=
 .call 1003 (s70 p0) [] [] fun r322 =>
 .done (decide ((0 : Int) ≤ r322))
theorem k55 (p0 : (List SPair)) : FnD Tryz.prog GG [0, 1, 4] Tryz.f55 [.sl false 4 (List.map tySPair.c p0), .fn 54 [] []] (g55 p0) (fun r => .bool r) := by unfold FnD; kernel_rfl
noncomputable def s55 (p0 : (List SPair)) : EV.Spec Tryz.prog GG (Bool) := .ofFn 55 mixed Tryz.func55 (k55 p0)
noncomputable def g19 (p0 : SList) : TT (Bool × Int) :=
 .call2 1002 (s49 p0) [] [(7, 500012), (500009, 500013)] (fun _ =>
  .tt (.done (false, 100)))
 (fun _ =>
  .ff (.view 5007 (s55 p0.fPairs) [(VwW.of 500013 tySPair p0.fPairs)] fun r323 =>
  .done ((!r323), 0)))
theorem k19 (p0 : SList) : FnD Tryz.prog GG [0, 1, 2, 3, 4, 5, 6, 13] Tryz.f19 [.agg [.bool p0.fControlling, .sl false 8 (List.map tySCandidate.c p0.fLocals), .sl false 8 (List.map tySCandidate.c p0.fRemotes), .sl false 4 (List.map tySPair.c p0.fPairs)]] (g19 p0) (fun r => .tup [.bool r.1, .int .i64 r.2]) := by unfold FnD; kernel_rfl
noncomputable def s19 (p0 : SList) : EV.Spec Tryz.prog GG (Bool × Int) := .ofFn 19 mixed Tryz.func19 (k19 p0)
noncomputable def g20 (p0 : SList) : TT (Bool × Int) :=
 .call 1002 (s15 p0) [] [] fun r324 =>
 .br 0 (!r324)
 (.done (false, 100))
 (.bind2 1
  (.lp (fun (l329 : Int) => Ext.lit .normal [(1, .ptr 1 0 0), (2, .bool false), (3, .int .i64 0), (4, .int .i64 l329)] [(1, ⟨4, true, [[.bool p0.fControlling, .sl false 8 (List.map tySCandidate.c p0.fLocals), .sl false 8 (List.map tySCandidate.c p0.fRemotes), .sl false 4 (List.map tySPair.c p0.fPairs)]]⟩)])
   (fun l329 =>
    .br 0 (decide (l329 < (mlen tySPair p0.fPairs)))
    (.cnd 6 [30]
     (.row 6004 tySPair p0.fPairs l329.toNat (decide (0 ≤ l329)) fun x330 =>
      .br 6009 (x330.fState != 3)
      (.row 6012 tySPair p0.fPairs l329.toNat (decide (0 ≤ l329)) fun x331 =>
       .done (x331.fState != 4))
      (.done false))
     (fun (c332 : Bool) => [.bool c332]) fun c332 =>
     .br 0 c332
     (.done (.inr (.inl ())))
     (.done (.inl (wi64 (l329 + 1)))))
    (.done (.inr (.inr ()))))
   0)
  (fun (_ : Unit) => Ext.lit .ret [(2, .bool false), (3, .int .i64 0)] [])
  (fun (_ : Unit) => Ext.lit (.exit 0) [(2, .bool false), (3, .int .i64 0)] [])
  (fun _ =>
   .done (false, 0))
  (fun _ =>
   .done (true, 0)))
theorem k20 (p0 : SList) : FnD Tryz.prog GG [0, 1, 2, 3, 4, 7, 12, 30] Tryz.f20 [.agg [.bool p0.fControlling, .sl false 8 (List.map tySCandidate.c p0.fLocals), .sl false 8 (List.map tySCandidate.c p0.fRemotes), .sl false 4 (List.map tySPair.c p0.fPairs)]] (g20 p0) (fun r => .tup [.bool r.1, .int .i64 r.2]) := by unfold FnD; kernel_rfl
noncomputable def s20 (p0 : SList) : EV.Spec Tryz.prog GG (Bool × Int) := .ofFn 20 mixed Tryz.func20 (k20 p0)
noncomputable def g21 (p0 : SList) : TT (SList × Int) :=
 .call2 1002 (s49 p0) [] [(7, 500014), (500009, 500015)] (fun r335 =>
  .tt (.done ((SList.mk false [] [] []), 100)))
 (fun r336 =>
  .ff (.bind 1
  (.lp (fun (l341 : (List SPair) × Int) => Ext.of .normal [(2, .ptr 2 0 0), (3, .int .i64 0), (4, .ptr 500014 0 0), (31, .ref 500015 0 l341.1.length), (32, .int .i64 (p0.fPairs.length : Int)), (33, .int .i64 l341.2)] [(2, ⟨4, true, [[.bool false, .nilsl, .nilsl, .nilsl]]⟩), (500014, ⟨4, true, [[.bool (!p0.fControlling), .sl false 8 (List.map tySCandidate.c p0.fLocals), .sl false 8 (List.map tySCandidate.c p0.fRemotes), .ref 500015 0 l341.1.length]]⟩)] [BT.of 500015 tySPair 4 l341.1 true] (by rfl))
   (fun l341 =>
    .br 0 (decide (l341.2 < (p0.fPairs.length : Int)))
    (.chk 7002 (decide (0 ≤ l341.2) && decide (l341.2 < (l341.1.length : Int))) (.row 7003 tySPair l341.1 (0 + l341.2.toNat) true fun x342 =>
     .view 8009 (s56 (SPlanner.mk (SList.mk (!p0.fControlling) p0.fLocals p0.fRemotes l341.1)) x342) [(VwW.of 500015 tySPair l341.1)] fun r343 =>
     .chk 8010 (decide (0 ≤ l341.2) && decide (l341.2 < (l341.1.length : Int))) (.row 8012 tySPair l341.1 (0 + l341.2.toNat) true fun x344 =>
     .re 8012 (ReW.put 500015 4 tySPair l341.1 (0 + l341.2.toNat) (SPair.mk x344.fLocal x344.fRemote r343 x344.fState)) (.gh 11 (.len 500015 ((l341.1.set (0 + l341.2.toNat) (SPair.mk x344.fLocal x344.fRemote r343 x344.fState)).length) [l341.1.length, l341.1.length] (by simp)) (.done (.inl ((l341.1.set (0 + l341.2.toNat) (SPair.mk x344.fLocal x344.fRemote r343 x344.fState)), (wi64 (l341.2 + 1)))))))))
    (.done (.inr l341.1)))
   (p0.fPairs, 0))
  (fun (e345 : (List SPair)) => Ext.of (.exit 0) [(2, .ptr 2 0 0), (3, .int .i64 0), (4, .ptr 500014 0 0)] [(2, ⟨4, true, [[.bool false, .nilsl, .nilsl, .nilsl]]⟩), (500014, ⟨4, true, [[.bool (!p0.fControlling), .sl false 8 (List.map tySCandidate.c p0.fLocals), .sl false 8 (List.map tySCandidate.c p0.fRemotes), .ref 500015 0 e345.length]]⟩)] [BT.of 500015 tySPair 4 e345 true] (by rfl))
  (fun e345 =>
   .gh 0 (.share (VwW.of 500015 tySPair e345) 1) (.done ((SList.mk (!p0.fControlling) p0.fLocals p0.fRemotes e345), 0)))))
theorem k21 (p0 : SList) : FnD Tryz.prog GG [0, 1, 2, 3, 4, 5, 6, 7, 14, 31, 32, 33, 34] Tryz.f21 [.agg [.bool p0.fControlling, .sl false 8 (List.map tySCandidate.c p0.fLocals), .sl false 8 (List.map tySCandidate.c p0.fRemotes), .sl false 4 (List.map tySPair.c p0.fPairs)]] (g21 p0) (fun r => .tup [.agg [.bool r.1.fControlling, .sl false 8 (List.map tySCandidate.c r.1.fLocals), .sl false 8 (List.map tySCandidate.c r.1.fRemotes), .sl false 4 (List.map tySPair.c r.1.fPairs)], .int .i64 r.2]) := by unfold FnD; kernel_rfl
noncomputable def s21 (p0 : SList) : EV.Spec Tryz.prog GG (SList × Int) := .ofFn 21 mixed Tryz.func21 (k21 p0)
noncomputable def g22 (p0 : SList) : TT (SList × Int) :=
 .call 1002 (s15 p0) [] [] fun r346 =>
 .br 0 (!r346)
 (.done ((SList.mk false [] [] []), 100))
 (.call 3002 (s57 p0) [] [(7, 500016)] fun r347 =>
  .bind 1
  (.lp (fun (l352 : (List SPair) × Int) => Ext.of .normal [(1, .ptr 1 0 0), (2, .ptr 2 0 0), (3, .int .i64 0), (4, .int .i64 l352.2)] [(1, ⟨4, true, [[.bool (!p0.fControlling), .sl false 8 (List.map tySCandidate.c p0.fLocals), .sl false 8 (List.map tySCandidate.c p0.fRemotes), .ref 500016 0 l352.1.length]]⟩), (2, ⟨4, true, [[.bool false, .nilsl, .nilsl, .nilsl]]⟩)] [BT.of 500016 tySPair 4 l352.1 true] (by rfl))
   (fun l352 =>
    .br 0 (decide (l352.2 < (l352.1.length : Int)))
    (.chk 8008 (decide (0 ≤ l352.2) && decide (l352.2 < (l352.1.length : Int))) (.row 8009 tySPair l352.1 (0 + l352.2.toNat) true fun x353 =>
     .view 8010 (s41 (SList.mk (!p0.fControlling) p0.fLocals p0.fRemotes l352.1) x353) [(VwW.of 500016 tySPair l352.1)] fun r354 =>
     .chk 8011 (decide (0 ≤ l352.2) && decide (l352.2 < (l352.1.length : Int))) (.row 8013 tySPair l352.1 (0 + l352.2.toNat) true fun x355 =>
     .re 8013 (ReW.put 500016 4 tySPair l352.1 (0 + l352.2.toNat) (SPair.mk x355.fLocal x355.fRemote r354 x355.fState)) (.gh 9 (.len 500016 ((l352.1.set (0 + l352.2.toNat) (SPair.mk x355.fLocal x355.fRemote r354 x355.fState)).length) [l352.1.length] (by simp)) (.done (.inl ((l352.1.set (0 + l352.2.toNat) (SPair.mk x355.fLocal x355.fRemote r354 x355.fState)), (wi64 (l352.2 + 1)))))))))
    (.done (.inr l352.1)))
   (r347, 0))
  (fun (e356 : (List SPair)) => Ext.of (.exit 0) [(1, .ptr 1 0 0), (2, .ptr 2 0 0), (3, .int .i64 0)] [(1, ⟨4, true, [[.bool (!p0.fControlling), .sl false 8 (List.map tySCandidate.c p0.fLocals), .sl false 8 (List.map tySCandidate.c p0.fRemotes), .ref 500016 0 e356.length]]⟩), (2, ⟨4, true, [[.bool false, .nilsl, .nilsl, .nilsl]]⟩)] [BT.of 500016 tySPair 4 e356 true] (by rfl))
  (fun e356 =>
   .gh 0 (.share (VwW.of 500016 tySPair e356) 1) (.done ((SList.mk (!p0.fControlling) p0.fLocals p0.fRemotes e356), 0))))
theorem k22 (p0 : SList) : FnD Tryz.prog GG [0, 1, 2, 3, 4, 7, 19] Tryz.f22 [.agg [.bool p0.fControlling, .sl false 8 (List.map tySCandidate.c p0.fLocals), .sl false 8 (List.map tySCandidate.c p0.fRemotes), .sl false 4 (List.map tySPair.c p0.fPairs)]] (g22 p0) (fun r => .tup [.agg [.bool r.1.fControlling, .sl false 8 (List.map tySCandidate.c r.1.fLocals), .sl false 8 (List.map tySCandidate.c r.1.fRemotes), .sl false 4 (List.map tySPair.c r.1.fPairs)], .int .i64 r.2]) := by unfold FnD; kernel_rfl
noncomputable def s22 (p0 : SList) : EV.Spec Tryz.prog GG (SList × Int) := .ofFn 22 mixed Tryz.func22 (k22 p0)
noncomputable def g23 (p0 : SList) (p1 : Int) (p2 : Int) : TT (SList × Int) :=
 .call2 1002 (s49 p0) [] [(7, 500017), (500009, 500018)] (fun r357 =>
  .tt (.done ((SList.mk false [] [] []), 100)))
 (fun r358 =>
  .ff (.cnd 4 [40]
  (.br 4004 (decide (p1 < 0))
   (.done true)
   (.br 4014 (decide ((p0.fPairs.length : Int) ≤ p1))
    (.done true)
    (.br 4018 (decide (p2 < 0))
     (.done true)
     (.done (decide ((4 : Int) < p2))))))
  (fun (c359 : Bool) => [.bool c359]) fun c359 =>
  .br 0 c359
  (.done ((SList.mk false [] [] []), 2))
  (.chk 6008 (decide (0 ≤ p1) && decide (p1 < (p0.fPairs.length : Int))) (.row 6010 tySPair p0.fPairs (0 + p1.toNat) true fun x360 =>
   .re 6010 (ReW.put 500018 4 tySPair p0.fPairs (0 + p1.toNat) (SPair.mk x360.fLocal x360.fRemote x360.fPriority p2)) (.gh 9 (.len 500018 ((p0.fPairs.set (0 + p1.toNat) (SPair.mk x360.fLocal x360.fRemote x360.fPriority p2)).length) [p0.fPairs.length] (by simp)) (.bind 1
   (.lp (fun (l368 : (List SPair) × Int) => Ext.of .normal [(1, .int .i64 p1), (2, .int .i64 p2), (6, .ptr 6 0 0), (7, .int .i64 0), (8, .ptr 500017 0 0), (55, .ref 500018 0 l368.1.length), (56, .int .i64 ((p0.fPairs.set (0 + p1.toNat) (SPair.mk x360.fLocal x360.fRemote x360.fPriority p2)).length : Int)), (57, .int .i64 l368.2)] [(6, ⟨4, true, [[.bool false, .nilsl, .nilsl, .nilsl]]⟩), (500017, ⟨4, true, [[.bool p0.fControlling, .sl false 8 (List.map tySCandidate.c p0.fLocals), .sl false 8 (List.map tySCandidate.c p0.fRemotes), .ref 500018 0 l368.1.length]]⟩)] [BT.of 500018 tySPair 4 l368.1 true] (by rfl))
    (fun l368 =>
     .br 0 (decide (l368.2 < ((p0.fPairs.set (0 + p1.toNat) (SPair.mk x360.fLocal x360.fRemote x360.fPriority p2)).length : Int)))
     (.chk 9002 (decide (0 ≤ l368.2) && decide (l368.2 < (l368.1.length : Int))) (.row 9003 tySPair l368.1 (0 + l368.2.toNat) true fun x369 =>
      .cnd 10 [84]
      (.br 10004 (p2 == 3)
       (.br 10009 (x369.fState == 0)
        (.view 10011 (s37 (SPlanner.mk (SList.mk p0.fControlling p0.fLocals p0.fRemotes l368.1)) x369) [(VwW.of 500018 tySPair l368.1)] fun r370 =>
         .chk 10019 (decide (0 ≤ p1) && decide (p1 < (l368.1.length : Int))) (.row 10020 tySPair l368.1 (0 + p1.toNat) true fun x371 =>
         .view 10021 (s37 (SPlanner.mk (SList.mk p0.fControlling p0.fLocals p0.fRemotes l368.1)) x371) [(VwW.of 500018 tySPair l368.1)] fun r372 =>
         .done ((decide (r370.a0 = r372.a0)) && ((decide (r370.a1 = r372.a1)) && true))))
        (.done false))
       (.done false))
      (fun (c373 : Bool) => [.bool c373]) fun c373 =>
      .br 0 c373
      (.chk 11007 (decide (0 ≤ l368.2) && decide (l368.2 < (l368.1.length : Int))) (.row 11009 tySPair l368.1 (0 + l368.2.toNat) true fun x374 =>
       .re 11009 (ReW.put 500018 4 tySPair l368.1 (0 + l368.2.toNat) (SPair.mk x374.fLocal x374.fRemote x374.fPriority 1)) (.gh 14 (.len 500018 ((l368.1.set (0 + l368.2.toNat) (SPair.mk x374.fLocal x374.fRemote x374.fPriority 1)).length) [l368.1.length, l368.1.length] (by simp)) (.done (.inl ((l368.1.set (0 + l368.2.toNat) (SPair.mk x374.fLocal x374.fRemote x374.fPriority 1)), (wi64 (l368.2 + 1))))))))
      (.done (.inl (l368.1, (wi64 (l368.2 + 1)))))))
     (.done (.inr l368.1)))
    ((p0.fPairs.set (0 + p1.toNat) (SPair.mk x360.fLocal x360.fRemote x360.fPriority p2)), 0))
   (fun (e375 : (List SPair)) => Ext.of (.exit 0) [(6, .ptr 6 0 0), (7, .int .i64 0), (8, .ptr 500017 0 0)] [(6, ⟨4, true, [[.bool false, .nilsl, .nilsl, .nilsl]]⟩), (500017, ⟨4, true, [[.bool p0.fControlling, .sl false 8 (List.map tySCandidate.c p0.fLocals), .sl false 8 (List.map tySCandidate.c p0.fRemotes), .ref 500018 0 e375.length]]⟩)] [BT.of 500018 tySPair 4 e375 true] (by rfl))
   (fun e375 =>
    .gh 0 (.share (VwW.of 500018 tySPair e375) 1) (.done ((SList.mk p0.fControlling p0.fLocals p0.fRemotes e375), 0)))))))))
theorem k23 (p0 : SList) (p1 : Int) (p2 : Int) : FnD Tryz.prog GG [0, 1, 2, 3, 6, 7, 8, 9, 10, 11, 18, 40, 55, 56, 57, 58, 84] Tryz.f23 [.agg [.bool p0.fControlling, .sl false 8 (List.map tySCandidate.c p0.fLocals), .sl false 8 (List.map tySCandidate.c p0.fRemotes), .sl false 4 (List.map tySPair.c p0.fPairs)], .int .i64 p1, .int .i64 p2] (g23 p0 p1 p2) (fun r => .tup [.agg [.bool r.1.fControlling, .sl false 8 (List.map tySCandidate.c r.1.fLocals), .sl false 8 (List.map tySCandidate.c r.1.fRemotes), .sl false 4 (List.map tySPair.c r.1.fPairs)], .int .i64 r.2]) := by unfold FnD; kernel_rfl
noncomputable def s23 (p0 : SList) (p1 : Int) (p2 : Int) : EV.Spec Tryz.prog GG (SList × Int) := .ofFn 23 mixed Tryz.func23 (k23 p0 p1 p2)
noncomputable def g24 (p0 : SList) (p1 : Int) (p2 : Int) : TT (SList × Int) :=
 .call 1002 (s15 p0) [] [] fun r376 =>
 .br 0 (!r376)
 (.done ((SList.mk false [] [] []), 100))
 (.cnd 3 [29]
  (.br 3004 (decide (p1 < 0))
   (.done true)
   (.br 3011 (decide ((mlen tySPair p0.fPairs) ≤ p1))
    (.done true)
    (.br 3015 (decide (p2 < 0))
     (.done true)
     (.done (decide ((4 : Int) < p2))))))
  (fun (c377 : Bool) => [.bool c377]) fun c377 =>
  .br 0 c377
  (.done ((SList.mk false [] [] []), 2))
  (.call 5002 (s57 p0) [] [(7, 500019)] fun r378 =>
   .chk 6005 (decide (0 ≤ p1) && decide (p1 < (r378.length : Int))) (.row 6007 tySPair r378 (0 + p1.toNat) true fun x379 =>
   .re 6007 (ReW.put 500019 4 tySPair r378 (0 + p1.toNat) (SPair.mk x379.fLocal x379.fRemote x379.fPriority p2)) (.gh 9 (.len 500019 ((r378.set (0 + p1.toNat) (SPair.mk x379.fLocal x379.fRemote x379.fPriority p2)).length) [r378.length] (by simp)) (.bind 1
   (.lp (fun (l388 : (List SPair) × Int) => Ext.of .normal [(1, .int .i64 p1), (2, .int .i64 p2), (3, .ptr 3 0 0), (6, .ptr 6 0 0), (7, .int .i64 0), (8, .int .i64 l388.2)] [(3, ⟨4, true, [[.bool p0.fControlling, .sl false 8 (List.map tySCandidate.c p0.fLocals), .sl false 8 (List.map tySCandidate.c p0.fRemotes), .ref 500019 0 l388.1.length]]⟩), (6, ⟨4, true, [[.bool false, .nilsl, .nilsl, .nilsl]]⟩)] [BT.of 500019 tySPair 4 l388.1 true] (by rfl))
    (fun l388 =>
     .cnd 8 [47]
     (.br 8007 (decide (l388.2 < (l388.1.length : Int)))
      (.done (p2 == 3))
      (.done false))
     (fun (c389 : Bool) => [.bool c389]) fun c389 =>
     .br 0 c389
     (.cnd 10 [70]
      (.chk 10004 (decide (0 ≤ l388.2) && decide (l388.2 < (l388.1.length : Int))) (.row 10006 tySPair l388.1 (0 + l388.2.toNat) true fun x390 =>
       .br 10009 (x390.fState == 0)
       (.chk 10013 (decide (0 ≤ p1) && decide (p1 < (l388.1.length : Int))) (.row 10014 tySPair l388.1 (0 + p1.toNat) true fun x391 =>
        .chk 10018 (decide (0 ≤ l388.2) && decide (l388.2 < (l388.1.length : Int))) (.row 10019 tySPair l388.1 (0 + l388.2.toNat) true fun x392 =>
        .view 10020 (s44 (SList.mk p0.fControlling p0.fLocals p0.fRemotes l388.1) x391 x392) [(VwW.of 500019 tySPair l388.1)] fun r393 =>
        .done r393)))
       (.done false)))
      (fun (c394 : Bool) => [.bool c394]) fun c394 =>
      .br 0 c394
      (.chk 11004 (decide (0 ≤ l388.2) && decide (l388.2 < (l388.1.length : Int))) (.row 11006 tySPair l388.1 (0 + l388.2.toNat) true fun x395 =>
       .re 11006 (ReW.put 500019 4 tySPair l388.1 (0 + l388.2.toNat) (SPair.mk x395.fLocal x395.fRemote x395.fPriority 1)) (.gh 11 (.len 500019 ((l388.1.set (0 + l388.2.toNat) (SPair.mk x395.fLocal x395.fRemote x395.fPriority 1)).length) [l388.1.length] (by simp)) (.done (.inl ((l388.1.set (0 + l388.2.toNat) (SPair.mk x395.fLocal x395.fRemote x395.fPriority 1)), (wi64 (l388.2 + 1))))))))
      (.done (.inl (l388.1, (wi64 (l388.2 + 1))))))
     (.done (.inr l388.1)))
    ((r378.set (0 + p1.toNat) (SPair.mk x379.fLocal x379.fRemote x379.fPriority p2)), 0))
   (fun (e396 : (List SPair)) => Ext.of (.exit 0) [(3, .ptr 3 0 0), (6, .ptr 6 0 0), (7, .int .i64 0)] [(3, ⟨4, true, [[.bool p0.fControlling, .sl false 8 (List.map tySCandidate.c p0.fLocals), .sl false 8 (List.map tySCandidate.c p0.fRemotes), .ref 500019 0 e396.length]]⟩), (6, ⟨4, true, [[.bool false, .nilsl, .nilsl, .nilsl]]⟩)] [BT.of 500019 tySPair 4 e396 true] (by rfl))
   (fun e396 =>
    .gh 0 (.share (VwW.of 500019 tySPair e396) 1) (.done ((SList.mk p0.fControlling p0.fLocals p0.fRemotes e396), 0))))))))
theorem k24 (p0 : SList) (p1 : Int) (p2 : Int) : FnD Tryz.prog GG [0, 1, 2, 3, 6, 7, 8, 11, 29, 47, 70] Tryz.f24 [.agg [.bool p0.fControlling, .sl false 8 (List.map tySCandidate.c p0.fLocals), .sl false 8 (List.map tySCandidate.c p0.fRemotes), .sl false 4 (List.map tySPair.c p0.fPairs)], .int .i64 p1, .int .i64 p2] (g24 p0 p1 p2) (fun r => .tup [.agg [.bool r.1.fControlling, .sl false 8 (List.map tySCandidate.c r.1.fLocals), .sl false 8 (List.map tySCandidate.c r.1.fRemotes), .sl false 4 (List.map tySPair.c r.1.fPairs)], .int .i64 r.2]) := by unfold FnD; kernel_rfl
noncomputable def s24 (p0 : SList) (p1 : Int) (p2 : Int) : EV.Spec Tryz.prog GG (SList × Int) := .ofFn 24 mixed Tryz.func24 (k24 p0 p1 p2)
end Go.Proofs.YtioobnkmohikjaaGreatDoor
namespace Go.Proofs.YtioobnkmohikjaaGreatDoor
open Go Go.EV
set_option maxRecDepth 100000
theorem eA_iff {a b : SAddr} : (decide (a.fHost = b.fHost) && ((a.fPort == b.fPort) && true)) = true ↔ a = b := by
 cases a; cases b; simp
def UsableA (a : SAddr) : Prop := ((a.fHost.size : Int) = 4 ∨ (a.fHost.size : Int) = 16) ∧ 1 ≤ a.fPort ∧ a.fPort ≤ 65535
theorem okAREAD (h : ByteArray) : SOk (s102 h) (fun r => (r.2 = 0 ↔ ((h.size : Int) = 4 ∨ (h.size : Int) = 16))) := by
 show Ok (g102 h) _
 unfold g102
 refine Ok.cnd (R := fun c => (c = true ↔ ¬ ((h.size : Int) = 4 ∨ (h.size : Int) = 16))) ?_ fun c hc => ?_
 ·refine Ok.br (fun h1 => Ok.done ?_) (fun h1 => Ok.done ?_)
  ·simp at h1 ⊢; omega
  ·simp at h1 ⊢; omega
 ·refine Ok.br (fun h1 => Ok.done ?_) (fun h1 => Ok.done ?_)
  ·simp [hc.1 h1]
  ·subst h1; simp at hc ⊢; omega
theorem okACHECK (a : SAddr) : SOk (s94 a) (fun r => (r = 0 ↔ ((a.fHost.size : Int) = 4 ∨ (a.fHost.size : Int) = 16) ∧ 0 ≤ a.fPort ∧ a.fPort ≤ 65535)) := by
 show Ok (g94 a) _
 unfold g94
 refine Ok.call (okAREAD _) fun r hr => ?_
 refine Ok.cnd (R := fun c => (c = true ↔ ¬ (((a.fHost.size : Int) = 4 ∨ (a.fHost.size : Int) = 16) ∧ 0 ≤ a.fPort ∧ a.fPort ≤ 65535))) ?_ fun c hc => ?_
 ·refine Ok.br (fun h1 => Ok.done ?_) (fun h1 => Ok.br (fun h2 => Ok.done ?_) (fun h2 => Ok.done ?_))
  ·simp at h1 ⊢; rw [hr] at h1; omega
  ·simp at h2 ⊢; omega
  ·simp at h1 h2 ⊢; rw [hr] at h1; omega
 ·refine Ok.br (fun h1 => Ok.done ?_) (fun h1 => Ok.done ?_)
  ·simp; have := hc.1 h1; omega
  ·subst h1; simp at hc ⊢; omega
theorem okCUSABLE (a : SAddr) : SOk (s83 a) (fun b => (b = true ↔ UsableA a)) := by
 show Ok (g83 a) _
 unfold g83
 refine Ok.cnd (R := fun c => (c = true ↔ UsableA a)) ?_ fun c hc => Ok.done hc
 refine Ok.call (okACHECK _) fun x hx => ?_
 unfold UsableA
 refine Ok.br (fun h1 => Ok.done ?_) (fun h1 => Ok.done ?_)
 ·simp at h1 ⊢; rw [hx] at h1; omega
 ·simp at h1 ⊢; rw [hx] at h1; omega
theorem okRUSABLE (a : SAddr) : SOk (s78 a) (fun b => (b = true ↔ UsableA a)) := by
 show Ok (g78 a) _
 unfold g78
 refine Ok.cnd (R := fun c => (c = true ↔ UsableA a)) ?_ fun c hc => Ok.done hc
 refine Ok.call (R := fun c => (c = true ↔ ((a.fHost.size : Int) = 4 ∨ (a.fHost.size : Int) = 16) ∧ 0 ≤ a.fPort ∧ a.fPort ≤ 65535)) ?_ fun c hc => ?_
 ·show Ok (g85 a) _
  unfold g85
  refine Ok.cnd (R := fun c => (c = true ↔ ((a.fHost.size : Int) = 4 ∨ (a.fHost.size : Int) = 16) ∧ 0 ≤ a.fPort ∧ a.fPort ≤ 65535)) ?_ fun c hc => Ok.done hc
  refine Ok.call (R := fun c => (c = true ↔ ((a.fHost.size : Int) = 4 ∨ (a.fHost.size : Int) = 16))) ?_ fun c hc => ?_
  ·show Ok (g96 a.fHost) _
   unfold g96
   refine Ok.cnd (R := fun c => (c = true ↔ ((a.fHost.size : Int) = 4 ∨ (a.fHost.size : Int) = 16))) ?_ fun c hc => Ok.done hc
   refine Ok.br (fun h1 => Ok.done ?_) (fun h1 => Ok.done ?_)
   ·simp at h1 ⊢; exact .inl h1
   ·simp at h1 ⊢; omega
  ·refine Ok.br (fun h1 => Ok.br (fun h2 => Ok.done ?_) (fun h2 => Ok.done ?_)) (fun h1 => Ok.done ?_)
   ·rw [hc] at h1; simp at h2 ⊢; omega
   ·simp at h2 ⊢; omega
   ·subst h1; simp at hc ⊢; omega
 ·unfold UsableA
  refine Ok.br (fun h1 => Ok.done ?_) (fun h1 => Ok.done ?_)
  ·rw [hc] at h1; simp; omega
  ·subst h1; simp at hc ⊢; omega
theorem okWITHIN (n a b : Int) : SOk (s79 n a b) (fun c => (c = true ↔ a ≤ n ∧ n ≤ b)) := by
 show Ok (g79 n a b) _
 unfold g79
 refine Ok.cnd (R := fun c => (c = true ↔ a ≤ n ∧ n ≤ b)) ?_ fun c hc => Ok.done hc
 refine Ok.br (fun h1 => Ok.done ?_) (fun h1 => Ok.done ?_)
 ·simp at h1 ⊢; omega
 ·simp at h1 ⊢; omega
def HexD (x : Int) : Prop := (48 ≤ x ∧ x ≤ 57) ∨ (97 ≤ x ∧ x ≤ 102) ∨ x = 45
theorem bAt_lt (s : ByteArray) (i : Int) : 0 ≤ bAt s i ∧ bAt s i < 256 := by
 unfold bAt
 refine ⟨by omega, ?_⟩
 have := UInt8.toNat_lt (s.data.getD i.toNat 0)
 omega
theorem okCONT (x : Int) (h : 0 ≤ x ∧ x < 256) : SOk (s98 x) (fun c => (c = true ↔ HexD x)) := by
 show Ok (g98 x) _
 unfold g98
 obtain ⟨n, rfl⟩ := Int.eq_ofNat_of_zero_le h.1
 have hn : n < 256 := by omega
 refine Ok.ceq ?_ ?_
 ·have : ∀ n : Fin 256, ([0, 1, 2, 3, 4, 5, 6, 7, 8, 9, 10, 11, 12, 13, 14, 15, 16, 17, 18, 19, 20, 21, 22, 23, 24, 25, 26, 27, 28, 29, 30, 31, 32, 33, 34, 35, 36, 37, 38, 39, 40, 41, 42, 43, 44, 45, 46, 47, 48, 49, 50, 51, 52, 53, 54, 55, 56, 57, 58, 59, 60, 61, 62, 63, 64, 65, 66, 67, 68, 69, 70, 71, 72, 73, 74, 75, 76, 77, 78, 79, 80, 81, 82, 83, 84, 85, 86, 87, 88, 89, 90, 91, 92, 93, 94, 95, 96, 97, 98, 99, 100, 101, 102, 103, 104, 105, 106, 107, 108, 109, 110, 111, 112, 113, 114, 115, 116, 117, 118, 119, 120, 121, 122, 123, 124, 125, 126, 127, 128, 129, 130, 131, 132, 133, 134, 135, 136, 137, 138, 139, 140, 141, 142, 143, 144, 145, 146, 147, 148, 149, 150, 151, 152, 153, 154, 155, 156, 157, 158, 159, 160, 161, 162, 163, 164, 165, 166, 167, 168, 169, 170, 171, 172, 173, 174, 175, 176, 177, 178, 179, 180, 181, 182, 183, 184, 185, 186, 187, 188, 189, 190, 191, 192, 193, 194, 195, 196, 197, 198, 199, 200, 201, 202, 203, 204, 205, 206, 207, 208, 209, 210, 211, 212, 213, 214, 215, 216, 217, 218, 219, 220, 221, 222, 223, 224, 225, 226, 227, 228, 229, 230, 231, 232, 233, 234, 235, 236, 237, 238, 239, 240, 241, 242, 243, 244, 245, 246, 247, 248, 249, 250, 251, 252, 253, 254, 255] : List Int).contains ((n.val : Nat) : Int) = true := by decide
  exact this ⟨n, hn⟩
 ·cases hb : ([45, 48, 49, 50, 51, 52, 53, 54, 55, 56, 57, 97, 98, 99, 100, 101, 102] : List Int).contains (n : Int) with
  | true =>
   refine Ok.done ⟨fun _ => ?_, fun _ => rfl⟩
   rw [List.contains_iff_mem] at hb
   simp only [List.mem_cons, List.not_mem_nil, or_false] at hb
   unfold HexD; omega
  | false =>
   refine Ok.done ⟨fun h => by simp at h, fun h => ?_⟩
   have : ¬ (n : Int) ∈ ([45, 48, 49, 50, 51, 52, 53, 54, 55, 56, 57, 97, 98, 99, 100, 101, 102] : List Int) := fun hm => by
    rw [← List.contains_iff_mem] at hm; rw [hm] at hb; simp at hb
   simp only [List.mem_cons, List.not_mem_nil, or_false] at this
   unfold HexD at h; omega
def AllHex (s : ByteArray) : Prop := ∀ i : Nat, i < s.size → HexD (bAt s i)
theorem bAt_extract (s : ByteArray) (a b : Nat) (i : Nat) (hb : b ≤ s.size) (hi : a + i < b) : bAt (s.extract a b) (i : Int) = bAt s ((a + i : Nat) : Int) := by
 unfold bAt
 simp only [Int.toNat_natCast]
 have : (s.extract a b).data[i]? = s.data[a + i]? := by
  rw [ByteArray.data_extract, Array.getElem?_extract, if_pos (by have : s.data.size = s.size := rfl; omega)]
 rw [Array.getD_eq_getD_getElem?, Array.getD_eq_getD_getElem?, this]
theorem size_extract (s : ByteArray) (a b : Nat) (hb : b ≤ s.size) : (s.extract a b).size = b - a := by
 rw [ByteArray.size_extract]; omega
theorem empty_iff (s : ByteArray) : s = ByteArray.empty ↔ s.size = 0 := by
 constructor
 ·rintro rfl; rfl
 ·intro h
  exact ByteArray.ext (Array.eq_empty_of_size_eq_zero h)
theorem okTRIMR (s : ByteArray) (hs : s.size ≤ 1000000) : SOk (s91 s) (fun r => ∃ n, n ≤ s.size ∧ r = s.extract 0 n ∧ (∀ i, n ≤ i → i < s.size → HexD (bAt s i)) ∧ (0 < n → ¬ HexD (bAt s ((n - 1 : Nat) : Int)))) := by
 show Ok (g91 s) _
 unfold g91
 refine Ok.bind (R := fun r => ∃ n, n ≤ s.size ∧ r = s.extract 0 n ∧ (∀ i, n ≤ i → i < s.size → HexD (bAt s i)) ∧ (0 < n → ¬ HexD (bAt s ((n - 1 : Nat) : Int)))) ?_ fun e he => Ok.done he
 refine Ok.lp (fun y => ∃ n, n ≤ s.size ∧ y = s.extract 0 n ∧ ∀ i, n ≤ i → i < s.size → HexD (bAt s i)) (fun y => y.size) ⟨s.size, Nat.le_refl _, by rw [ByteArray.extract_zero_size], fun i h1 h2 => by omega⟩ (fuel (by omega)) fun y hy => ?_
 obtain ⟨n, hn, rfl, hd⟩ := hy
 have hsz : (s.extract 0 n).size = n := by rw [size_extract s 0 n hn]; omega
 rw [hsz]
 refine Ok.br (fun hc => ?_) (fun hc => Ok.done ?_)
 ·simp only [decide_eq_true_eq] at hc
  have e : wi64 ((n : Int) - 1) = ((n - 1 : Nat) : Int) := by rw [wi64_id (by omega) (by omega)]; omega
  rw [e]
  refine Ok.chk (by simp; omega) ?_
  have eb : bAt (s.extract 0 n) ((n - 1 : Nat) : Int) = bAt s ((n - 1 : Nat) : Int) := by
   have := bAt_extract s 0 n (n - 1) hn (by omega)
   rw [this]; simp
  rw [eb]
  refine Ok.call (okCONT _ (bAt_lt _ _)) fun c hcc => ?_
  refine Ok.br (fun h1 => Ok.done ?_) (fun h1 => ?_)
  ·exact ⟨n, hn, rfl, hd, fun _ h => by rw [hcc.2 h] at h1; simp at h1⟩
  ·refine Ok.chk (by simp) (Ok.done ?_)
   have hcx : HexD (bAt s ((n - 1 : Nat) : Int)) := hcc.1 (by simpa using h1)
   refine ⟨⟨n - 1, by omega, ?_, fun i h2 h3 => ?_⟩, ?_⟩
   ·rw [Int.toNat_natCast, ByteArray.extract_extract]
    congr 1
    omega
   ·by_cases h4 : i = n - 1
    ·rw [h4]; exact hcx
    ·exact hd i (by omega) h3
   ·show ((s.extract 0 n).extract 0 ((n - 1 : Nat) : Int).toNat).size < n
    rw [Int.toNat_natCast, size_extract _ _ _ (by rw [hsz]; omega)]; omega
 ·simp only [decide_eq_false_iff_not] at hc
  exact ⟨n, hn, rfl, hd, fun h => by omega⟩
theorem okTRIML (s : ByteArray) (hs : s.size ≤ 1000000) : SOk (s90 s) (fun r => (r.size = 0 ↔ AllHex s)) := by
 show Ok (g90 s) _
 unfold g90
 refine Ok.bind (R := fun r => (r.size = 0 ↔ AllHex s)) ?_ fun e he => Ok.done he
 refine Ok.lp (fun y => ∃ n, n ≤ s.size ∧ y = s.extract n s.size ∧ ∀ i, i < n → HexD (bAt s i)) (fun y => y.size) ⟨0, Nat.zero_le _, by rw [ByteArray.extract_zero_size], fun i h => by omega⟩ (fuel (by omega)) fun y hy => ?_
 obtain ⟨n, hn, rfl, hd⟩ := hy
 have hsz : (s.extract n s.size).size = s.size - n := size_extract s n s.size (Nat.le_refl _)
 rw [hsz]
 refine Ok.br (fun hc => ?_) (fun hc => Ok.done ?_)
 ·simp only [decide_eq_true_eq] at hc
  refine Ok.chk (by simp; omega) ?_
  have eb : bAt (s.extract n s.size) 0 = bAt s (n : Int) := by
   have := bAt_extract s n s.size 0 (Nat.le_refl _) (by omega)
   simpa using this
  rw [eb]
  refine Ok.call (okCONT _ (bAt_lt _ _)) fun c hcc => ?_
  refine Ok.br (fun h1 => Ok.done ?_) (fun h1 => ?_)
  ·show _ ↔ _
   rw [hsz]
   refine ⟨fun h => by omega, fun h => ?_⟩
   have := hcc.2 (h n (by omega))
   rw [this] at h1; simp at h1
  ·refine Ok.chk (by simp; omega) (Ok.done ?_)
   refine ⟨⟨n + 1, by omega, ?_, fun i hi => ?_⟩, ?_⟩
   ·rw [ByteArray.extract_extract]
    congr 1 <;> omega
   ·by_cases h4 : i = n
    ·rw [h4]; exact hcc.1 (by simpa using h1)
    ·exact hd i (by omega)
   ·show ((s.extract n s.size).extract 1 (s.size - n)).size < s.size - n
    rw [size_extract _ _ _ (by rw [hsz]; omega)]; omega
 ·simp only [decide_eq_false_iff_not] at hc
  show _ ↔ _
  rw [hsz]
  exact ⟨fun _ i hi => hd i (by omega), fun _ => by omega⟩
theorem okTRIM (s : ByteArray) (hs : s.size ≤ 1000000) : SOk (s82 s) (fun r => (r = ByteArray.empty ↔ AllHex s)) := by
 show Ok (g82 s) _
 unfold g82
 refine Ok.cnd (R := fun c => c = decide (s = ByteArray.empty)) (Ok.br (fun h => Ok.done h.symm) (fun h => Ok.done h.symm)) fun c hc => ?_
 refine Ok.br (fun h1 => Ok.done ?_) (fun h1 => ?_)
 ·rw [hc, decide_eq_true_eq] at h1
  exact ⟨fun _ i hi => by rw [h1] at hi; exact absurd hi (by simp [ByteArray.size_empty]), fun _ => h1⟩
 ·refine Ok.ff (Ok.call (R := fun _ => True) ⟨(), by kernel_rfl, trivial⟩ fun _ _ => Ok.tt (Ok.view (okTRIMR s hs) fun r hr => ?_))
  obtain ⟨n, hn, rfl, hd, hl⟩ := hr
  have hsz : (s.extract 0 n).size = n := by rw [size_extract s 0 n hn]; omega
  refine Ok.view (okTRIML _ (by omega)) fun q hq => Ok.done ?_
  rw [empty_iff, hq]
  have eb : ∀ i, i < n → bAt (s.extract 0 n) (i : Int) = bAt s (i : Int) := fun i hi => by
   have := bAt_extract s 0 n i hn (by omega)
   rw [this]; simp
  constructor
  ·intro h i hi
   by_cases hin : i < n
   ·rw [← eb i hin]; exact h i (by omega)
   ·exact hd i (by omega) hi
  ·intro h i hi
   rw [hsz] at hi
   rw [eb i hi]; exact h i (by omega)
def CandOk (c : SCandidate) : Prop :=
 (1 ≤ c.fKind ∧ c.fKind ≤ 4) ∧ (1 ≤ c.fComponent ∧ c.fComponent ≤ 256) ∧ (1 ≤ c.fPriority ∧ c.fPriority ≤ 2147483647) ∧ (1 ≤ (c.fFoundation.size : Int) ∧ (c.fFoundation.size : Int) ≤ 80) ∧
 AllHex c.fFoundation ∧ UsableA c.fAddr ∧ UsableA c.fBase ∧ (c.fAddr.fHost.size : Int) = (c.fBase.fHost.size : Int) ∧ (c.fAddr = c.fBase ∨ c.fKind = 2 ∨ c.fKind = 3)
theorem okCVALID (c : SCandidate) : SOk (s75 c) (fun b => (b = true ↔ CandOk c)) := by
 show Ok (g75 c) _
 unfold g75 CandOk
 refine Ok.cnd (R := fun b => (b = true ↔ ¬ ((1 ≤ c.fKind ∧ c.fKind ≤ 4) ∧ (1 ≤ c.fComponent ∧ c.fComponent ≤ 256) ∧ (1 ≤ c.fPriority ∧ c.fPriority ≤ 2147483647) ∧ (1 ≤ (c.fFoundation.size : Int) ∧ (c.fFoundation.size : Int) ≤ 80)))) ?_ fun b hb => ?_
 ·refine Ok.call (okWITHIN _ _ _) fun r1 h1 => Ok.br (fun k1 => Ok.done ?_) (fun k1 => Ok.call (okWITHIN _ _ _) fun r2 h2 => Ok.br (fun k2 => Ok.done ?_) (fun k2 => Ok.call (okWITHIN _ _ _) fun r3 h3 => Ok.br (fun k3 => Ok.done ?_) (fun k3 => Ok.call (okWITHIN _ _ _) fun r4 h4 => Ok.done ?_)))
  ·simp only [Bool.not_eq_true'] at k1; subst k1; simp at h1 ⊢; omega
  ·simp only [Bool.not_eq_true'] at k2; subst k2; simp at h2 ⊢; omega
  ·simp only [Bool.not_eq_true'] at k3; subst k3; simp at h3 ⊢; omega
  ·simp only [Bool.not_eq_false'] at k1 k2 k3
   rw [k1] at h1; rw [k2] at h2; rw [k3] at h3
   simp only [true_iff] at h1 h2 h3
   cases r4 <;> simp at h4 ⊢ <;> omega
 ·refine Ok.br (fun h1 => Ok.done ?_) (fun h1 => ?_)
  ·have := hb.1 h1
   exact ⟨fun h => by simp at h, fun h => absurd ⟨h.1, h.2.1, h.2.2.1, h.2.2.2.1⟩ this⟩
  ·have hb' : (1 ≤ c.fKind ∧ c.fKind ≤ 4) ∧ (1 ≤ c.fComponent ∧ c.fComponent ≤ 256) ∧ (1 ≤ c.fPriority ∧ c.fPriority ≤ 2147483647) ∧ (1 ≤ (c.fFoundation.size : Int) ∧ (c.fFoundation.size : Int) ≤ 80) :=
    Classical.byContradiction fun hn => by rw [hb.2 hn] at h1; simp at h1
   refine Ok.cnd (R := fun b => (b = true ↔ ¬ (AllHex c.fFoundation ∧ UsableA c.fAddr ∧ UsableA c.fBase ∧ (c.fAddr.fHost.size : Int) = (c.fBase.fHost.size : Int)))) ?_ fun b2 hb2 => ?_
   ·refine Ok.call (okTRIM _ (by omega)) fun r hr => Ok.br (fun k1 => Ok.done ?_) (fun k1 => Ok.call (okCUSABLE _) fun r2 h2 => Ok.br (fun k2 => Ok.done ?_) (fun k2 => Ok.call (okCUSABLE _) fun r3 h3 => Ok.br (fun k3 => Ok.done ?_) (fun k3 => Ok.done ?_)))
    ·simp only [Bool.not_eq_true', decide_eq_false_iff_not] at k1
     exact ⟨fun _ h => k1 (hr.2 h.1), fun _ => rfl⟩
    ·simp only [Bool.not_eq_true'] at k2; subst k2
     exact ⟨fun _ h => by have := h2.2 h.2.1; simp at this, fun _ => rfl⟩
    ·simp only [Bool.not_eq_true'] at k3; subst k3
     exact ⟨fun _ h => by have := h3.2 h.2.2.1; simp at this, fun _ => rfl⟩
    ·simp only [Bool.not_eq_false', decide_eq_true_eq] at k1 k2 k3
     have e1 := hr.1 k1; have e2 := h2.1 k2; have e3 := h3.1 k3
     simp only [bne_iff_ne]
     exact ⟨fun h h' => h h'.2.2.2, fun h h' => h ⟨e1, e2, e3, h'⟩⟩
   ·refine Ok.br (fun h2 => Ok.done ?_) (fun h2 => ?_)
    ·have := hb2.1 h2
     exact ⟨fun h => by simp at h, fun h => absurd ⟨h.2.2.2.2.1, h.2.2.2.2.2.1, h.2.2.2.2.2.2.1, h.2.2.2.2.2.2.2.1⟩ this⟩
    ·have hb3 : AllHex c.fFoundation ∧ UsableA c.fAddr ∧ UsableA c.fBase ∧ (c.fAddr.fHost.size : Int) = (c.fBase.fHost.size : Int) :=
      Classical.byContradiction fun hn => by rw [hb2.2 hn] at h2; simp at h2
     refine Ok.cnd (R := fun b => (b = true ↔ (c.fAddr = c.fBase ∨ c.fKind = 2 ∨ c.fKind = 3))) ?_ fun b4 hb4 => Ok.done ?_
     ·refine Ok.br (fun k1 => Ok.done ?_) (fun k1 => Ok.br (fun k2 => Ok.done ?_) (fun k2 => Ok.done ?_))
      ·exact ⟨fun _ => .inl (eA_iff.1 k1), fun _ => rfl⟩
      ·simp only [beq_iff_eq] at k2; exact ⟨fun _ => .inr (.inl k2), fun _ => rfl⟩
      ·simp only [beq_eq_false_iff_ne, beq_iff_eq] at k2 ⊢
       have hne : c.fAddr ≠ c.fBase := fun e => by rw [eA_iff.2 e] at k1; simp at k1
       exact ⟨fun h => .inr (.inr h), fun h => by rcases h with h | h | h; exact absurd h hne; exact absurd h k2; exact h⟩
     ·rw [hb4]
      exact ⟨fun h => ⟨hb'.1, hb'.2.1, hb'.2.2.1, hb'.2.2.2, hb3.1, hb3.2.1, hb3.2.2.1, hb3.2.2.2, h⟩, fun h => h.2.2.2.2.2.2.2.2⟩
theorem okCCHECK (c : SCandidate) : SOk (s63 c) (fun r => (r = 0 ↔ CandOk c)) := by
 show Ok (g63 c) _
 unfold g63
 refine Ok.call (okCVALID c) fun r hr => Ok.br (fun k1 => Ok.done ?_) (fun k1 => Ok.done ?_)
 ·simp only [Bool.not_eq_true'] at k1; subst k1; simp at hr ⊢; exact hr
 ·simp only [Bool.not_eq_false'] at k1; subst k1; simp at hr ⊢; exact hr
theorem okRCAND (c : SCandidate) : SOk (s67 c) (fun b => (b = true ↔ CandOk c)) := by
 show Ok (g67 c) _
 unfold g67 CandOk
 refine Ok.cnd (R := fun b => (b = true ↔ ¬ ((1 ≤ c.fKind ∧ c.fKind ≤ 4) ∧ (1 ≤ c.fComponent ∧ c.fComponent ≤ 256) ∧ (1 ≤ c.fPriority ∧ c.fPriority ≤ 2147483647) ∧ (1 ≤ (c.fFoundation.size : Int) ∧ (c.fFoundation.size : Int) ≤ 80)))) ?_ fun b hb => ?_
 ·refine Ok.br (fun h1 => Ok.done ?_) (fun h1 => Ok.br (fun h2 => Ok.done ?_) (fun h2 => Ok.br (fun h3 => Ok.done ?_) (fun h3 => Ok.br (fun h4 => Ok.done ?_) (fun h4 => Ok.br (fun h5 => Ok.done ?_) (fun h5 => Ok.br (fun h6 => Ok.done ?_) (fun h6 => Ok.br (fun h7 => Ok.done ?_) (fun h7 => Ok.done ?_)))))))
  all_goals (simp at *; omega)
 ·refine Ok.br (fun h1 => Ok.done ?_) (fun h1 => ?_)
  ·have := hb.1 h1
   exact ⟨fun h => by simp at h, fun h => absurd ⟨h.1, h.2.1, h.2.2.1, h.2.2.2.1⟩ this⟩
  ·have hb' : (1 ≤ c.fKind ∧ c.fKind ≤ 4) ∧ (1 ≤ c.fComponent ∧ c.fComponent ≤ 256) ∧ (1 ≤ c.fPriority ∧ c.fPriority ≤ 2147483647) ∧ (1 ≤ (c.fFoundation.size : Int) ∧ (c.fFoundation.size : Int) ≤ 80) :=
    Classical.byContradiction fun hn => by rw [hb.2 hn] at h1; simp at h1
   refine Ok.bind2 (R := fun e => match e with | .inl _ => ¬ AllHex c.fFoundation | .inr _ => AllHex c.fFoundation) ?_ (fun e he => Ok.done ?_) (fun e he => ?_)
   ·refine Ok.scan c.fFoundation.size (by omega) (fun k y => y = (k : Int) ∧ ∀ i : Nat, i < k → HexD (bAt c.fFoundation i)) ⟨rfl, fun i h => by omega⟩ (fun k y hy hk => ?_) (fun y hy => ?_)
    ·obtain ⟨rfl, hd⟩ := hy
     refine Ok.br (fun hc => ?_) (fun hc => by simp at hc; omega)
     refine Ok.chk (by simp; omega) ?_
     generalize hx : bAt c.fFoundation (k : Int) = x
     refine Ok.cnd (R := fun b => (b = true ↔ ¬ HexD x)) ?_ fun b2 hb2 => ?_
     ·unfold HexD
      refine Ok.br (fun p1 => Ok.br (fun p2 => Ok.br (fun p3 => Ok.br (fun p4 => Ok.done ?_) (fun p4 => Ok.done ?_)) (fun p3 => Ok.done ?_)) (fun p2 => Ok.done ?_)) (fun p1 => Ok.br (fun p3 => Ok.br (fun p4 => Ok.done ?_) (fun p4 => Ok.done ?_)) (fun p3 => Ok.done ?_))
      all_goals (simp at *; omega)
     ·refine Ok.br (fun p1 => Ok.done ?_) (fun p1 => Ok.done ?_)
      ·show ¬ AllHex _
       intro h
       exact hb2.1 p1 (by rw [← hx]; exact h k hk)
      ·refine ⟨wi64_nat hk (by omega), fun i hi => ?_⟩
       by_cases h4 : i = k
       ·rw [h4, hx]; exact Classical.byContradiction fun hn => by rw [hb2.2 hn] at p1; simp at p1
       ·exact hd i (by omega)
    ·obtain ⟨rfl, hd⟩ := hy
     refine Ok.br (fun hc => by simp at hc) (fun hc => Ok.done ?_)
     exact fun i hi => hd i hi
   ·exact ⟨fun h => by simp at h, fun h => absurd h.2.2.2.2.1 he⟩
   ·have he : AllHex c.fFoundation := he
    refine Ok.cnd (R := fun b => (b = true ↔ ¬ (UsableA c.fAddr ∧ UsableA c.fBase ∧ (c.fAddr.fHost.size : Int) = (c.fBase.fHost.size : Int)))) ?_ fun b2 hb2 => ?_
    ·refine Ok.call (okRUSABLE _) fun r2 h2 => Ok.br (fun k2 => Ok.done ?_) (fun k2 => Ok.call (okRUSABLE _) fun r3 h3 => Ok.br (fun k3 => Ok.done ?_) (fun k3 => Ok.done ?_))
     ·simp only [Bool.not_eq_true'] at k2; subst k2
      exact ⟨fun _ h => by have := h2.2 h.1; simp at this, fun _ => rfl⟩
     ·simp only [Bool.not_eq_true'] at k3; subst k3
      exact ⟨fun _ h => by have := h3.2 h.2.1; simp at this, fun _ => rfl⟩
     ·simp only [Bool.not_eq_false'] at k2 k3
      have e2 := h2.1 k2; have e3 := h3.1 k3
      simp only [bne_iff_ne]
      exact ⟨fun h h' => h h'.2.2, fun h h' => h ⟨e2, e3, h'⟩⟩
    ·refine Ok.br (fun h2 => Ok.done ?_) (fun h2 => ?_)
     ·have := hb2.1 h2
      exact ⟨fun h => by simp at h, fun h => absurd ⟨h.2.2.2.2.2.1, h.2.2.2.2.2.2.1, h.2.2.2.2.2.2.2.1⟩ this⟩
     ·have hb3 : UsableA c.fAddr ∧ UsableA c.fBase ∧ (c.fAddr.fHost.size : Int) = (c.fBase.fHost.size : Int) :=
       Classical.byContradiction fun hn => by rw [hb2.2 hn] at h2; simp at h2
      refine Ok.cnd (R := fun b => (b = true ↔ (c.fAddr = c.fBase ∨ c.fKind = 2 ∨ c.fKind = 3))) ?_ fun b4 hb4 => Ok.done ?_
      ·have hk := hb'.1
       refine Ok.br (fun k1 => Ok.done ?_) (fun k1 => Ok.br (fun k2 => Ok.done ?_) (fun k2 => Ok.done ?_))
       ·exact ⟨fun _ => .inl (eA_iff.1 k1), fun _ => rfl⟩
       ·have hne : c.fAddr ≠ c.fBase := fun e => by rw [eA_iff.2 e] at k1; simp at k1
        simp only [bne_iff_ne] at k2 ⊢
        exact ⟨fun h => .inr (by omega), fun h => by rcases h with h | h; exact absurd h hne; omega⟩
       ·have hne : c.fAddr ≠ c.fBase := fun e => by rw [eA_iff.2 e] at k1; simp at k1
        simp only [bne_eq_false_iff_eq] at k2
        exact ⟨fun h => by simp at h, fun h => by rcases h with h | h; exact absurd h hne; omega⟩
      ·rw [hb4]
       exact ⟨fun h => ⟨hb'.1, hb'.2.1, hb'.2.2.1, hb'.2.2.2, he, hb3.1, hb3.2.1, hb3.2.2, h⟩, fun h => h.2.2.2.2.2.2.2.2⟩
def CandsOk (l : List SCandidate) : Prop := ∀ c, c ∈ l → CandOk c
theorem okCANDS (l : List SCandidate) (hl : l.length ≤ 1000000) : SOk (s30 l) (fun b => (b = true ↔ CandsOk l)) := by
 show Ok (g30 l) _
 unfold g30
 refine Ok.call (R := fun b => (b = true ↔ ¬ CandsOk l)) ?_ fun b hb => Ok.done ?_
 ·show Ok (g61 l) _
  unfold g61
  refine Ok.call (R := fun i => (0 ≤ i ↔ ¬ CandsOk l)) ?_ fun i hi => Ok.done (by simpa using hi)
  show Ok (g74 l) _
  unfold g74
  refine Ok.bind2 (R := fun e => match e with | .inl i => 0 ≤ i ∧ ¬ CandsOk l | .inr _ => CandsOk l) ?_ (fun e he => Ok.done ⟨fun _ => he.2, fun _ => he.1⟩) (fun e he => Ok.done ⟨fun h => by simp at h, fun h => absurd he h⟩)
  refine Ok.scan l.length hl (fun k y => y = (k : Int) ∧ ∀ j c, j < k → l[j]? = some c → CandOk c) ⟨rfl, fun j c h => by omega⟩ (fun k y hy hk => ?_) (fun y hy => ?_)
  ·obtain ⟨rfl, hd⟩ := hy
   rw [mlen_eq]
   refine Ok.br (fun hc => ?_) (fun hc => by simp at hc; omega)
   obtain ⟨x, hx1, hx2⟩ := get_lt hk
   refine Ok.row (by simp) hx1 ?_
   refine Ok.call (R := fun b => (b = true ↔ ¬ CandOk x)) ?_ fun b hb => ?_
   ·show Ok (g62 x) _
    unfold g62
    exact Ok.call (okCCHECK x) fun r hr => Ok.done (by rw [bne_iff_ne]; exact not_congr hr)
   ·refine Ok.br (fun p1 => Ok.done ?_) (fun p1 => Ok.done ?_)
    ·exact ⟨by omega, fun h => hb.1 p1 (h x (List.mem_of_getElem? hx2))⟩
    ·exact ⟨wi64_nat hk hl, upto2 (p := CandOk) hd hx2 (Classical.byContradiction fun hn => by rw [hb.2 hn] at p1; simp at p1)⟩
  ·obtain ⟨rfl, hd⟩ := hy
   rw [mlen_eq]
   refine Ok.br (fun hc => by simp at hc) (fun hc => Ok.done ?_)
   intro c hc
   obtain ⟨j, hj⟩ := List.mem_iff_getElem?.1 hc
   exact hd j c (List.getElem?_eq_some_iff.1 hj).1 hj
 ·cases b <;> simp at hb ⊢ <;> exact hb
theorem okALL (l : List SCandidate) (hl : l.length ≤ 1000000) : SOk (s39 l) (fun b => (b = true ↔ CandsOk l)) := by
 show Ok (g39 l) _
 unfold g39
 refine Ok.bind2 (R := fun e => match e with | .inl _ => ¬ CandsOk l | .inr _ => CandsOk l) ?_ (fun e he => Ok.done ⟨fun h => by simp at h, fun h => absurd h he⟩) (fun e he => Ok.done ⟨fun _ => he, fun _ => rfl⟩)
 refine Ok.scan l.length hl (fun k y => y = (k : Int) ∧ ∀ j c, j < k → l[j]? = some c → CandOk c) ⟨rfl, fun j c h => by omega⟩ (fun k y hy hk => ?_) (fun y hy => ?_)
 ·obtain ⟨rfl, hd⟩ := hy
  rw [mlen_eq]
  refine Ok.br (fun hc => ?_) (fun hc => by simp at hc; omega)
  obtain ⟨x, hx1, hx2⟩ := get_lt hk
  refine Ok.row (by simp) hx1 (Ok.call (okRCAND x) fun b hb => ?_)
  refine Ok.br (fun p1 => Ok.done ?_) (fun p1 => Ok.done ?_)
  ·simp only [Bool.not_eq_true'] at p1; subst p1
   exact fun h => by have := hb.2 (h x (List.mem_of_getElem? hx2)); simp at this
  ·simp only [Bool.not_eq_false'] at p1
   exact ⟨wi64_nat hk hl, upto2 (p := CandOk) hd hx2 (hb.1 p1)⟩
 ·obtain ⟨rfl, hd⟩ := hy
  rw [mlen_eq]
  refine Ok.br (fun hc => by simp at hc) (fun hc => Ok.done ?_)
  intro c hc
  obtain ⟨j, hj⟩ := List.mem_iff_getElem?.1 hc
  exact hd j c (List.getElem?_eq_some_iff.1 hj).1 hj
end Go.Proofs.YtioobnkmohikjaaGreatDoor
namespace Go.Proofs.YtioobnkmohikjaaGreatDoor
open Go Go.EV
set_option maxRecDepth 100000
def mapTo {α : Type} (f : α → α) (L : List α) (k : Nat) : List α := (L.take k).map f ++ L.drop k
theorem mapTo_get {α : Type} (f : α → α) (L : List α) {k : Nat} (hk : k ≤ L.length) (i : Nat) : (mapTo f L k)[i]? = (L[i]?).map fun x => if i < k then f x else x := by
 unfold mapTo
 have hl : ((L.take k).map f).length = k := by simp; omega
 by_cases h : i < k
 ·rw [List.getElem?_append_left (by omega), List.getElem?_map, List.getElem?_take, if_pos h]
  cases L[i]? <;> simp [h]
 ·rw [List.getElem?_append_right (by omega), hl, List.getElem?_drop, show k + (i - k) = i by omega]
  cases L[i]? <;> simp [h]
theorem mapTo_len {α : Type} (f : α → α) (L : List α) {k : Nat} (hk : k ≤ L.length) : (mapTo f L k).length = L.length := by
 unfold mapTo; simp; omega
theorem mapTo_zero {α : Type} (f : α → α) (L : List α) : mapTo f L 0 = L := by simp [mapTo]
theorem mapTo_last {α : Type} (f : α → α) (L : List α) : mapTo f L L.length = L.map f := by simp [mapTo]
theorem mapTo_here {α : Type} (f : α → α) {L : List α} {k : Nat} (hk : k < L.length) : (mapTo f L k)[k]? = L[k]? := by
 rw [mapTo_get f L (by omega)]
 cases L[k]? <;> simp
theorem mapTo_set {α : Type} (f : α → α) {L : List α} {k : Nat} {x : α} (hx : L[k]? = some x) : (mapTo f L k).set k (f x) = mapTo f L (k + 1) := by
 have hk := (List.getElem?_eq_some_iff.1 hx).1
 refine List.ext_getElem? fun i => ?_
 rw [mapTo_get f L (by omega)]
 by_cases h : i = k
 ·subst h
  rw [List.getElem?_set_self (by rw [mapTo_len f L (by omega)]; exact hk), hx]
  simp
 ·rw [List.getElem?_set_ne (Ne.symm h), mapTo_get f L (by omega)]
  cases L[i]? with
  | none => rfl
  | some y =>
   simp only [Option.map_some, Option.some.injEq]
   by_cases h1 : i < k
   ·rw [if_pos h1, if_pos (by omega)]
   ·rw [if_neg h1, if_neg (by omega)]
theorem mapTo_skip {α : Type} (f : α → α) {L : List α} {k : Nat} {x : α} (hx : L[k]? = some x) (h : f x = x) : mapTo f L k = mapTo f L (k + 1) := by
 rw [← mapTo_set f hx, h]
 have hk := (List.getElem?_eq_some_iff.1 hx).1
 refine List.ext_getElem? fun i => ?_
 by_cases hi : i = k
 ·subst hi
  rw [List.getElem?_set_self (by rw [mapTo_len f L (by omega)]; exact hk), mapTo_here f hk, hx]
 ·rw [List.getElem?_set_ne (Ne.symm hi)]
def c0 : SCandidate := ⟨0, 0, 0, ByteArray.empty, ⟨ByteArray.empty, 0⟩, ⟨ByteArray.empty, 0⟩⟩
def locC (l : SList) (x : SPair) : SCandidate := (l.fLocals[x.fLocal.toNat]?).getD c0
def remC (l : SList) (x : SPair) : SCandidate := (l.fRemotes[x.fRemote.toNat]?).getD c0
def InB (l : SList) (x : SPair) : Prop := (0 ≤ x.fLocal ∧ x.fLocal < (l.fLocals.length : Int)) ∧ (0 ≤ x.fRemote ∧ x.fRemote < (l.fRemotes.length : Int))
theorem InB.loc {l : SList} {x : SPair} (h : InB l x) : l.fLocals[x.fLocal.toNat]? = some (locC l x) := by
 obtain ⟨y, hy⟩ := at_of h.1.1 h.1.2
 unfold locC; rw [hy]; rfl
theorem InB.rem {l : SList} {x : SPair} (h : InB l x) : l.fRemotes[x.fRemote.toNat]? = some (remC l x) := by
 obtain ⟨y, hy⟩ := at_of h.2.1 h.2.2
 unfold remC; rw [hy]; rfl
theorem InB.lc {l : SList} {x : SPair} (h : InB l x) : decide (0 ≤ x.fLocal) = true := by simpa using h.1.1
theorem InB.rc {l : SList} {x : SPair} (h : InB l x) : decide (0 ≤ x.fRemote) = true := by simpa using h.2.1
theorem InB.locOk {l : SList} {x : SPair} (h : InB l x) (hc : CandsOk l.fLocals) : CandOk (locC l x) := hc _ (List.mem_of_getElem? h.loc)
theorem InB.remOk {l : SList} {x : SPair} (h : InB l x) (hc : CandsOk l.fRemotes) : CandOk (remC l x) := hc _ (List.mem_of_getElem? h.rem)
def ppr (a b : Int) : Int := if b < a then b * 4294967296 + 2 * a + 1 else a * 4294967296 + 2 * b
theorem okPP (a b : Int) (ha : 1 ≤ a ∧ a ≤ 2147483647) (hb : 1 ≤ b ∧ b ≤ 2147483647) : SOk (s71 a b) (fun r => r = (ppr a b, 0)) := by
 show Ok (g71 a b) _
 unfold g71
 refine Ok.cnd (R := fun c => c = false) (Ok.call (okWITHIN _ _ _) fun r hr => Ok.br (fun k => ?_) (fun k => Ok.call (okWITHIN _ _ _) fun r2 hr2 => Ok.done ?_)) fun c hc => ?_
 ·simp only [Bool.not_eq_true'] at k; subst k; have := hr.2 ha; simp at this
 ·cases r2 with
  | true => rfl
  | false => have := hr2.2 hb; simp at this
 ·subst hc
  have sh : ∀ x : Int, 1 ≤ x → x ≤ 2147483647 → bShl .i64 x 32 = x * 4294967296 := fun x h1 h2 => by
   show IntKind.i64.wrap (x * 2 ^ (min (32 : Int).toNat 64)) = _
   have e : (2 : Int) ^ (min (32 : Int).toNat 64) = 4294967296 := by decide
   rw [e]
   exact wi64_id (by omega) (by omega)
  refine Ok.brF rfl (Ok.br (fun h => Ok.done ?_) (fun h => Ok.done ?_))
  ·simp only [decide_eq_true_eq] at h
   have e1 : (if b < a then b else a) = b := if_pos h
   have e2 : (if b > a then b else a) = a := if_neg (by omega)
   rw [e1, e2, sh b hb.1 hb.2, wi64_id (n := 2 * a) (by omega) (by omega), wi64_id (n := b * 4294967296 + 2 * a) (by omega) (by omega), wi64_id (by omega) (by omega)]
   unfold ppr; rw [if_pos h]
  ·simp only [decide_eq_false_iff_not] at h
   have e1 : (if b < a then b else a) = a := if_neg h
   have e2 : (if b > a then b else a) = b := by split <;> omega
   rw [e1, e2, sh a ha.1 ha.2, wi64_id (n := 2 * b) (by omega) (by omega), wi64_id (by omega) (by omega)]
   unfold ppr; rw [if_neg h]
theorem okRPP (a b : Int) (ha : 1 ≤ a ∧ a ≤ 2147483647) (hb : 1 ≤ b ∧ b ≤ 2147483647) : SOk (s68 a b) (fun r => r = (ppr a b, 0)) := by
 show Ok (g68 a b) _
 unfold g68
 refine Ok.cnd (R := fun c => c = false) (Ok.brF (by simp; omega) (Ok.brF (by simp; omega) (Ok.brF (by simp; omega) (Ok.done (by simp; omega))))) fun c hc => ?_
 subst hc
 refine Ok.brF rfl (Ok.br (fun h => Ok.done ?_) (fun h => Ok.done ?_))
 ·simp only [decide_eq_true_eq] at h
  rw [wi64_id (n := b * 4294967296) (by omega) (by omega), wi64_id (n := 2 * a) (by omega) (by omega), wi64_id (n := b * 4294967296 + 2 * a) (by omega) (by omega), wi64_id (by omega) (by omega)]
  unfold ppr; rw [if_pos h]
 ·simp only [decide_eq_false_iff_not] at h
  rw [wi64_id (n := a * 4294967296) (by omega) (by omega), wi64_id (n := 2 * b) (by omega) (by omega), wi64_id (by omega) (by omega)]
  unfold ppr; rw [if_neg h]
def prio (l : SList) (x : SPair) : Int := bif l.fControlling then ppr (locC l x).fPriority (remC l x).fPriority else ppr (remC l x).fPriority (locC l x).fPriority
theorem okPRIO (l : SList) (x : SPair) (h : InB l x) (hl : CandsOk l.fLocals) (hr : CandsOk l.fRemotes) : SOk (s56 (SPlanner.mk l) x) (fun r => r = prio l x) := by
 show Ok (g56 (SPlanner.mk l) x) _
 unfold g56 prio
 have h1 := (h.locOk hl).2.2.1
 have h2 := (h.remOk hr).2.2.1
 refine Ok.row h.lc h.loc (Ok.row h.rc h.rem ?_)
 cases l.fControlling with
 | false => exact Ok.bind (R := fun e => e = ((remC l x).fPriority, (locC l x).fPriority)) (Ok.brT rfl (Ok.done rfl)) fun e he => by subst he; exact Ok.call (okPP _ _ h2 h1) fun r hr => Ok.done (by rw [hr]; rfl)
 | true => exact Ok.bind (R := fun e => e = ((locC l x).fPriority, (remC l x).fPriority)) (Ok.brF rfl (Ok.done rfl)) fun e he => by subst he; exact Ok.call (okPP _ _ h1 h2) fun r hr => Ok.done (by rw [hr]; rfl)
theorem okRPRIO (l : SList) (x : SPair) (h : InB l x) (hl : CandsOk l.fLocals) (hr : CandsOk l.fRemotes) : SOk (s41 l x) (fun r => r = prio l x) := by
 show Ok (g41 l x) _
 unfold g41 prio
 have h1 := (h.locOk hl).2.2.1
 have h2 := (h.remOk hr).2.2.1
 refine Ok.row h.lc h.loc (Ok.row h.rc h.rem ?_)
 cases l.fControlling with
 | true => exact Ok.brT rfl (Ok.call (okRPP _ _ h1 h2) fun r hr => Ok.done (by rw [hr]; rfl))
 | false => exact Ok.brF rfl (Ok.call (okRPP _ _ h2 h1) fun r hr => Ok.done (by rw [hr]; rfl))
def likeK (l : SList) (x : SPair) : SLike := ⟨(locC l x).fBase, (remC l x).fAddr, (locC l x).fComponent⟩
def foundK (l : SList) (x : SPair) : S2String := ⟨(locC l x).fFoundation, (remC l x).fFoundation⟩
theorem okLIKE (l : SList) (x : SPair) (h : InB l x) : SOk (s36 (SPlanner.mk l) x) (fun r => r = likeK l x) := by
 show Ok (g36 (SPlanner.mk l) x) _
 unfold g36
 exact Ok.row h.lc h.loc (Ok.row h.rc h.rem (Ok.done rfl))
theorem okFOUND (l : SList) (x : SPair) (h : InB l x) : SOk (s37 (SPlanner.mk l) x) (fun r => r = foundK l x) := by
 show Ok (g37 (SPlanner.mk l) x) _
 unfold g37
 exact Ok.row h.lc h.loc (Ok.row h.rc h.rem (Ok.done rfl))
theorem okALIKE (l : SList) (x y : SPair) (h : InB l x) (k : InB l y) : SOk (s43 l x y) (fun b => (b = true ↔ likeK l x = likeK l y)) := by
 show Ok (g43 l x y) _
 unfold g43 likeK
 refine Ok.row h.lc h.loc (Ok.row h.rc h.rem (Ok.row k.lc k.loc (Ok.row k.rc k.rem ?_)))
 simp only [SLike.mk.injEq]
 refine Ok.cnd (R := fun b => (b = true ↔ (locC l x).fBase = (locC l y).fBase ∧ (remC l x).fAddr = (remC l y).fAddr ∧ (locC l x).fComponent = (locC l y).fComponent)) ?_ fun b hb => Ok.done hb
 refine Ok.br (fun k1 => Ok.br (fun k2 => Ok.done ?_) (fun k2 => Ok.done ?_)) (fun k1 => Ok.done ?_)
 ·have e1 := eA_iff.1 k1; have e2 := eA_iff.1 k2
  rw [beq_iff_eq]
  exact ⟨fun h => ⟨e1, e2, h⟩, fun h => h.2.2⟩
 ·exact ⟨fun h => by simp at h, fun h => by rw [eA_iff.2 h.2.1] at k2; simp at k2⟩
 ·exact ⟨fun h => by simp at h, fun h => by rw [eA_iff.2 h.1] at k1; simp at k1⟩
theorem okRELATED (l : SList) (x y : SPair) (h : InB l x) (k : InB l y) : SOk (s44 l x y) (fun b => (b = true ↔ foundK l x = foundK l y)) := by
 show Ok (g44 l x y) _
 unfold g44 foundK
 simp only [S2String.mk.injEq]
 refine Ok.cnd (R := fun b => (b = true ↔ (locC l x).fFoundation = (locC l y).fFoundation ∧ (remC l x).fFoundation = (remC l y).fFoundation)) ?_ fun b hb => Ok.done hb
 refine Ok.row h.lc h.loc (Ok.row k.lc k.loc (Ok.br (fun k1 => Ok.row h.rc h.rem (Ok.row k.rc k.rem (Ok.done ?_))) (fun k1 => Ok.done ?_)))
 ·simp only [decide_eq_true_eq] at k1 ⊢
  exact ⟨fun h => ⟨k1, h⟩, fun h => h.2⟩
 ·simp only [decide_eq_false_iff_not] at k1
  exact ⟨fun h => by simp at h, fun h => absurd h.1 k1⟩
def FitP (a b : SCandidate) : Prop := a.fComponent = b.fComponent ∧ (a.fAddr.fHost.size : Int) = (b.fAddr.fHost.size : Int)
theorem okFIT (a b : SCandidate) : SOk (s64 a b) (fun c => (c = true ↔ FitP a b)) := by
 show Ok (g64 a b) _
 unfold g64 FitP
 refine Ok.cnd (R := fun c => (c = true ↔ a.fComponent = b.fComponent ∧ (a.fAddr.fHost.size : Int) = (b.fAddr.fHost.size : Int))) ?_ fun c hc => Ok.done hc
 refine Ok.br (fun h => Ok.done ?_) (fun h => Ok.done ?_)
 ·rw [beq_iff_eq] at h ⊢; exact ⟨fun k => ⟨h, k⟩, fun k => k.2⟩
 ·rw [beq_eq_false_iff_ne] at h; exact ⟨fun k => by simp at k, fun k => absurd k.1 h⟩
theorem okRFIT (a b : SCandidate) : SOk (s40 a b) (fun c => (c = true ↔ FitP a b)) := by
 show Ok (g40 a b) _
 unfold g40 FitP
 refine Ok.cnd (R := fun c => (c = true ↔ a.fComponent = b.fComponent ∧ (a.fAddr.fHost.size : Int) = (b.fAddr.fHost.size : Int))) ?_ fun c hc => Ok.done hc
 refine Ok.br (fun h => Ok.done ?_) (fun h => Ok.done ?_)
 ·rw [beq_iff_eq] at h ⊢; exact ⟨fun k => ⟨h, k⟩, fun k => k.2⟩
 ·rw [beq_eq_false_iff_ne] at h; exact ⟨fun k => by simp at k, fun k => absurd k.1 h⟩
def PairOk (l : SList) (x : SPair) : Prop := InB l x ∧ (0 ≤ x.fState ∧ x.fState ≤ 4) ∧ FitP (locC l x) (remC l x) ∧ x.fPriority = prio l x
def HeadOk (l : SList) : Prop := l.fLocals.length ≤ 12 ∧ l.fRemotes.length ≤ 12 ∧ l.fPairs.length ≤ 36 ∧ CandsOk l.fLocals ∧ CandsOk l.fRemotes
def ValidL (l : SList) : Prop := HeadOk l ∧ (∀ x, x ∈ l.fPairs → PairOk l x) ∧ (l.fPairs.map (likeK l)).Nodup
theorem likeP_iff {a b : SLike} : ((decide (a.fbase.fHost = b.fbase.fHost)) && ((a.fbase.fPort == b.fbase.fPort) && ((decide (a.faddr.fHost = b.faddr.fHost)) && ((a.faddr.fPort == b.faddr.fPort) && ((a.fcomponent == b.fcomponent) && true))))) = true ↔ a = b := by
 obtain ⟨⟨a1, a2⟩, ⟨a3, a4⟩, a5⟩ := a
 obtain ⟨⟨b1, b2⟩, ⟨b3, b4⟩, b5⟩ := b
 simp only [Bool.and_eq_true, decide_eq_true_eq, beq_iff_eq, and_true, SLike.mk.injEq, SAddr.mk.injEq, and_assoc]
theorem okVALID (l : SList) : SOk (s48 (SPlanner.mk l)) (fun b => (b = true ↔ ValidL l)) := by
 show Ok (g48 (SPlanner.mk l)) _
 unfold g48 ValidL
 simp only [mlen_eq]
 refine Ok.cnd (R := fun b => (b = true ↔ ¬ HeadOk l)) ?_ fun b hb => ?_
 ·unfold HeadOk
  refine Ok.br (fun k1 => Ok.done ?_) (fun k1 => Ok.br (fun k2 => Ok.done ?_) (fun k2 => Ok.br (fun k3 => Ok.done ?_) (fun k3 => ?_)))
  ·simp only [decide_eq_true_eq] at k1; exact ⟨fun _ h => by omega, fun _ => rfl⟩
  ·simp only [decide_eq_true_eq] at k2; exact ⟨fun _ h => by omega, fun _ => rfl⟩
  ·simp only [decide_eq_true_eq] at k3; exact ⟨fun _ h => by omega, fun _ => rfl⟩
  ·simp only [decide_eq_false_iff_not] at k1 k2 k3
   refine Ok.call (okCANDS _ (by omega)) fun r1 h1 => Ok.br (fun k4 => Ok.done ?_) (fun k4 => Ok.call (okCANDS _ (by omega)) fun r2 h2 => Ok.done ?_)
   ·simp only [Bool.not_eq_true'] at k4; subst k4
    exact ⟨fun _ h => by have := h1.2 h.2.2.2.1; simp at this, fun _ => rfl⟩
   ·simp only [Bool.not_eq_false'] at k4
    have e1 := h1.1 k4
    cases r2 with
    | true => exact ⟨fun h => by simp at h, fun h => absurd ⟨by omega, by omega, by omega, e1, h2.1 rfl⟩ h⟩
    | false => exact ⟨fun _ h => by have := h2.2 h.2.2.2.2; simp at this, fun _ => rfl⟩
 ·refine Ok.br (fun h1 => Ok.done ⟨fun h => by simp at h, fun h => absurd h.1 (hb.1 h1)⟩) (fun h1 => ?_)
  have hH : HeadOk l := Classical.byContradiction fun hn => by rw [hb.2 hn] at h1; simp at h1
  refine Ok.opr rfl ?_
  refine Ok.bind2 (R := fun e => match e with | .inl _ => ¬ ((∀ x, x ∈ l.fPairs → PairOk l x) ∧ (l.fPairs.map (likeK l)).Nodup) | .inr _ => (∀ x, x ∈ l.fPairs → PairOk l x) ∧ (l.fPairs.map (likeK l)).Nodup) ?_ (fun e he => Ok.done ⟨fun h => by simp at h, fun h => absurd h.2 he⟩) (fun e he => Ok.done ⟨fun _ => ⟨hH, he⟩, fun _ => rfl⟩)
  have hlen : l.fPairs.length ≤ 36 := hH.2.2.1
  refine Ok.scan l.fPairs.length (by omega) (fun k y => y.2 = (k : Int) ∧ SetOf SEnt86.fk SEnt86.fv y.1 ((l.fPairs.take k).map (likeK l)) ∧ (∀ j x, j < k → l.fPairs[j]? = some x → PairOk l x) ∧ ((l.fPairs.take k).map (likeK l)).Nodup) ⟨rfl, SetOf.nil _ _, fun j c h => by omega, by simp⟩ (fun k y hy hk => ?_) (fun y hy => ?_)
  ·obtain ⟨hi, hs, hd, hn⟩ := hy
   obtain ⟨y1, y2⟩ := y
   simp only at hi hs
   subst hi
   refine Ok.br (fun hc => ?_) (fun hc => by simp at hc; omega)
   obtain ⟨x, hx1, hx2⟩ := get_lt hk
   have hxm := List.mem_of_getElem? hx2
   refine Ok.row (by simp) hx1 ?_
   refine Ok.cnd (R := fun b => (b = true ↔ ¬ (InB l x ∧ (0 ≤ x.fState ∧ x.fState ≤ 4)))) ?_ fun b2 hb2 => ?_
   ·unfold InB
    refine Ok.br (fun k1 => Ok.done ?_) (fun k1 => Ok.br (fun k2 => Ok.done ?_) (fun k2 => Ok.br (fun k3 => Ok.done ?_) (fun k3 => Ok.br (fun k4 => Ok.done ?_) (fun k4 => Ok.br (fun k5 => Ok.done ?_) (fun k5 => Ok.done ?_)))))
    all_goals (simp only [decide_eq_true_eq, decide_eq_false_iff_not] at *; first | (exact ⟨fun _ h => by omega, fun _ => trivial⟩) | (constructor <;> intro h <;> omega))
   ·refine Ok.br (fun k1 => Ok.done ?_) (fun k1 => ?_)
    ·exact fun h => hb2.1 k1 ⟨(h.1 x hxm).1, (h.1 x hxm).2.1⟩
    ·have hIS : InB l x ∧ (0 ≤ x.fState ∧ x.fState ≤ 4) := Classical.byContradiction fun hn => by rw [hb2.2 hn] at k1; simp at k1
     obtain ⟨hI, hS⟩ := hIS
     refine Ok.cnd (R := fun b => (b = true ↔ ¬ (FitP (locC l x) (remC l x) ∧ x.fPriority = prio l x ∧ likeK l x ∉ (l.fPairs.take k).map (likeK l)))) ?_ fun b3 hb3 => ?_
     ·refine Ok.row hI.lc hI.loc (Ok.row hI.rc hI.rem (Ok.call (okFIT _ _) fun f hf => Ok.br (fun k2 => Ok.done ?_) (fun k2 => Ok.call (okPRIO l x hI hH.2.2.2.1 hH.2.2.2.2) fun p hp => Ok.br (fun k3 => Ok.done ?_) (fun k3 => Ok.call (okLIKE l x hI) fun q hq => Ok.opr rfl (Ok.done ?_)))))
      ·simp only [Bool.not_eq_true'] at k2; subst k2
       exact ⟨fun _ h => by have := hf.2 h.1; simp at this, fun _ => rfl⟩
      ·rw [bne_iff_ne, hp] at k3
       exact ⟨fun _ h => k3 h.2.1, fun _ => rfl⟩
      ·simp only [Bool.not_eq_false'] at k2
       rw [bne_eq_false_iff_eq, hp] at k3
       subst hq
       rw [hs.look (x := likeK l x) (fun e => likeP_iff)]
       exact ⟨fun h h' => h'.2.2 h, fun h => Classical.byContradiction fun h' => h ⟨hf.1 k2, k3, h'⟩⟩
     ·refine Ok.br (fun k2 => Ok.done ?_) (fun k2 => ?_)
      ·intro h
       have hP := h.1 x hxm
       refine hb3.1 k2 ⟨hP.2.2.1, hP.2.2.2, fun hm => ?_⟩
       have h2 := h.2
       rw [← List.take_append_drop (k + 1) l.fPairs, List.map_append, take_succ_map hx2] at h2
       exact (nodup_app.1 (List.nodup_append.1 h2).1).2 hm
      ·have h3 : FitP (locC l x) (remC l x) ∧ x.fPriority = prio l x ∧ likeK l x ∉ (l.fPairs.take k).map (likeK l) := Classical.byContradiction fun hn => by rw [hb3.2 hn] at k2; simp at k2
       refine Ok.call (okLIKE l x hI) fun q hq => Ok.opr rfl (Ok.done ?_)
       subst hq
       refine ⟨wi64_nat hk (by omega), ?_, upto2 (p := PairOk l) hd hx2 ⟨hI, hS, h3.1, h3.2.1⟩, ?_⟩
       ·rw [take_succ_map hx2]
        exact hs.put (x := likeK l x) (fun e => likeP_iff) rfl rfl
       ·rw [take_succ_map hx2]
        exact nodup_app.2 ⟨hn, h3.2.2⟩
  ·obtain ⟨hi, hs, hd, hn⟩ := hy
   obtain ⟨y1, y2⟩ := y
   simp only at hi hs
   subst hi
   refine Ok.br (fun hc => by simp at hc) (fun hc => Ok.done ⟨fun x hx => ?_, by simpa using hn⟩)
   obtain ⟨j, hj⟩ := List.mem_iff_getElem?.1 hx
   exact hd j x (List.getElem?_eq_some_iff.1 hj).1 hj
theorem okRIGHT (l : SList) : SOk (s15 l) (fun b => (b = true ↔ ValidL l)) := by
 show Ok (g15 l) _
 unfold g15 ValidL
 simp only [mlen_eq]
 refine Ok.cnd (R := fun b => (b = true ↔ ¬ HeadOk l)) ?_ fun b hb => ?_
 ·unfold HeadOk
  refine Ok.br (fun k1 => Ok.done ?_) (fun k1 => Ok.br (fun k2 => Ok.done ?_) (fun k2 => Ok.br (fun k3 => Ok.done ?_) (fun k3 => ?_)))
  ·simp only [decide_eq_true_eq] at k1; exact ⟨fun _ h => by omega, fun _ => rfl⟩
  ·simp only [decide_eq_true_eq] at k2; exact ⟨fun _ h => by omega, fun _ => rfl⟩
  ·simp only [decide_eq_true_eq] at k3; exact ⟨fun _ h => by omega, fun _ => rfl⟩
  ·simp only [decide_eq_false_iff_not] at k1 k2 k3
   refine Ok.call (okALL _ (by omega)) fun r1 h1 => Ok.br (fun k4 => Ok.done ?_) (fun k4 => Ok.call (okALL _ (by omega)) fun r2 h2 => Ok.done ?_)
   ·simp only [Bool.not_eq_true'] at k4; subst k4
    exact ⟨fun _ h => by have := h1.2 h.2.2.2.1; simp at this, fun _ => rfl⟩
   ·simp only [Bool.not_eq_false'] at k4
    have e1 := h1.1 k4
    cases r2 with
    | true => exact ⟨fun h => by simp at h, fun h => absurd ⟨by omega, by omega, by omega, e1, h2.1 rfl⟩ h⟩
    | false => exact ⟨fun _ h => by have := h2.2 h.2.2.2.2; simp at this, fun _ => rfl⟩
 ·refine Ok.br (fun h1 => Ok.done ⟨fun h => by simp at h, fun h => absurd h.1 (hb.1 h1)⟩) (fun h1 => ?_)
  have hH : HeadOk l := Classical.byContradiction fun hn => by rw [hb.2 hn] at h1; simp at h1
  refine Ok.bind2 (R := fun e => match e with | .inl _ => ¬ ((∀ x, x ∈ l.fPairs → PairOk l x) ∧ (l.fPairs.map (likeK l)).Nodup) | .inr _ => (∀ x, x ∈ l.fPairs → PairOk l x) ∧ (l.fPairs.map (likeK l)).Nodup) ?_ (fun e he => Ok.done ⟨fun h => by simp at h, fun h => absurd h.2 he⟩) (fun e he => Ok.done ⟨fun _ => ⟨hH, he⟩, fun _ => rfl⟩)
  have hlen : l.fPairs.length ≤ 36 := hH.2.2.1
  refine Ok.scan l.fPairs.length (by omega) (fun k y => y = (k : Int) ∧ (∀ j x, j < k → l.fPairs[j]? = some x → PairOk l x) ∧ ((l.fPairs.take k).map (likeK l)).Nodup) ⟨rfl, fun j c h => by omega, by simp⟩ (fun k y hy hk => ?_) (fun y hy => ?_)
  ·obtain ⟨hi, hd, hn⟩ := hy
   subst hi
   refine Ok.br (fun hc => ?_) (fun hc => by simp at hc; omega)
   obtain ⟨x, hx1, hx2⟩ := get_lt hk
   have hxm := List.mem_of_getElem? hx2
   refine Ok.row (by simp) hx1 ?_
   refine Ok.cnd (R := fun b => (b = true ↔ ¬ PairOk l x)) ?_ fun b2 hb2 => ?_
   ·unfold PairOk
    refine Ok.br (fun k1 => Ok.done ?_) (fun k1 => Ok.br (fun k2 => Ok.done ?_) (fun k2 => Ok.br (fun k3 => Ok.done ?_) (fun k3 => Ok.br (fun k4 => Ok.done ?_) (fun k4 => Ok.br (fun k5 => Ok.done ?_) (fun k5 => Ok.br (fun k6 => Ok.done ?_) (fun k6 => ?_))))))
    all_goals simp only [decide_eq_true_eq, decide_eq_false_iff_not] at *
    ·exact ⟨fun _ h => by have := h.1.1; omega, fun _ => trivial⟩
    ·exact ⟨fun _ h => by have := h.1.1; omega, fun _ => trivial⟩
    ·exact ⟨fun _ h => by have := h.1.2; omega, fun _ => trivial⟩
    ·exact ⟨fun _ h => by have := h.1.2; omega, fun _ => trivial⟩
    ·exact ⟨fun _ h => by have := h.2.1; omega, fun _ => trivial⟩
    ·exact ⟨fun _ h => by have := h.2.1; omega, fun _ => trivial⟩
    ·have hI : InB l x := ⟨by omega, by omega⟩
     refine Ok.row hI.lc hI.loc (Ok.row hI.rc hI.rem (Ok.call (okRFIT _ _) fun f hf => Ok.br (fun k2 => Ok.done ?_) (fun k2 => Ok.call (okRPRIO l x hI hH.2.2.2.1 hH.2.2.2.2) fun p hp => Ok.done ?_)))
     ·simp only [Bool.not_eq_true'] at k2; subst k2
      exact ⟨fun _ h => by have := hf.2 h.2.2.1; simp at this, fun _ => rfl⟩
     ·simp only [Bool.not_eq_false'] at k2
      rw [bne_iff_ne, hp]
      exact ⟨fun h h' => h h'.2.2.2, fun h h' => h ⟨hI, by omega, hf.1 k2, h'⟩⟩
   ·refine Ok.br (fun k1 => Ok.done ?_) (fun k1 => ?_)
    ·exact fun h => hb2.1 k1 (h.1 x hxm)
    ·have hP : PairOk l x := Classical.byContradiction fun hn => by rw [hb2.2 hn] at k1; simp at k1
     refine Ok.bind2 (R := fun e => match e with | .inl _ => likeK l x ∈ (l.fPairs.take k).map (likeK l) | .inr _ => likeK l x ∉ (l.fPairs.take k).map (likeK l)) ?_ (fun e he => Ok.done ?_) (fun e he => Ok.done ?_)
     ·refine Ok.scan k (by omega) (fun q y => y = (q : Int) ∧ ∀ j z, j < q → l.fPairs[j]? = some z → likeK l x ≠ likeK l z) ⟨rfl, fun j c h => by omega⟩ (fun q y hy hq => ?_) (fun y hy => ?_)
      ·obtain ⟨rfl, he⟩ := hy
       refine Ok.br (fun hc => ?_) (fun hc => by simp at hc; omega)
       obtain ⟨z, hz1, hz2⟩ := get_lt (l := l.fPairs) (k := q) (by omega)
       refine Ok.row (by simp) hz1 (Ok.call (okALIKE l x z hP.1 (hd q z hq hz2).1) fun a ha => Ok.br (fun k2 => Ok.done ?_) (fun k2 => Ok.done ?_))
       ·exact List.mem_map.2 ⟨z, mem_take_iff.2 ⟨q, hq, hz2⟩, (ha.1 k2).symm⟩
       ·exact ⟨wi64_nat hq (by omega), upto2 (p := fun z => likeK l x ≠ likeK l z) he hz2 fun e => by rw [ha.2 e] at k2; simp at k2⟩
      ·obtain ⟨rfl, he⟩ := hy
       refine Ok.br (fun hc => by simp at hc) (fun hc => Ok.done ?_)
       intro hm
       obtain ⟨z, hz, e⟩ := List.mem_map.1 hm
       obtain ⟨j, hj, hjz⟩ := mem_take_iff.1 hz
       exact he j z hj hjz e.symm
     ·intro h
      have h2 := h.2
      rw [← List.take_append_drop (k + 1) l.fPairs, List.map_append, take_succ_map hx2] at h2
      exact (nodup_app.1 (List.nodup_append.1 h2).1).2 he
     ·refine ⟨wi64_nat hk (by omega), upto2 (p := PairOk l) hd hx2 hP, ?_⟩
      rw [take_succ_map hx2]
      exact nodup_app.2 ⟨hn, he⟩
  ·obtain ⟨rfl, hd, hn⟩ := hy
   refine Ok.br (fun hc => by simp at hc) (fun hc => Ok.done ⟨fun x hx => ?_, by simpa using hn⟩)
   obtain ⟨j, hj⟩ := List.mem_iff_getElem?.1 hx
   exact hd j x (List.getElem?_eq_some_iff.1 hj).1 hj
end Go.Proofs.YtioobnkmohikjaaGreatDoor
namespace Go.Proofs.YtioobnkmohikjaaGreatDoor
open Go Go.EV
set_option maxRecDepth 100000
open Classical
def l0 : SList := ⟨false, [], [], []⟩
theorem okSTART (l : SList) : SOk (s49 l) (fun r => match r with | .inl _ => ¬ ValidL l | .inr _ => ValidL l) := by
 show Ok (g49 l) _
 unfold g49
 refine Ok.view (okVALID l) fun r hr => Ok.br (fun h => Ok.done ?_) (fun h => ?_)
 ·simp only [Bool.not_eq_true'] at h; subst h
  exact fun hv => by have := hr.2 hv; simp at this
 ·simp only [Bool.not_eq_false'] at h
  have hv := hr.1 h
  refine Ok.call (R := fun _ => True) ?_ fun _ _ => Ok.done hv
  show Ok (g69 l.fPairs) _
  unfold g69
  exact Ok.app (by have := hv.1.2.2.1; simp; omega) (Ok.done trivial)
theorem okCOPIED (l : SList) (h : l.fPairs.length ≤ 1000000) : SOk (s57 l) (fun r => r = l.fPairs) := by
 show Ok (g57 l) _
 unfold g57
 exact Ok.app (by simp; omega) (Ok.done (by simp))
def withP (l : SList) (c : Bool) (ps : List SPair) : SList := ⟨c, l.fLocals, l.fRemotes, ps⟩
def putS (x : SPair) (st : Int) : SPair := ⟨x.fLocal, x.fRemote, x.fPriority, st⟩
noncomputable def wakeX (l : SList) (p : SPair) (st : Int) (x : SPair) : SPair := if st = 3 ∧ x.fState = 0 ∧ foundK l x = foundK l p then putS x 1 else x
noncomputable def setF (l : SList) (i st : Int) : SList × Int :=
 if ValidL l then (if 0 ≤ i ∧ i < (l.fPairs.length : Int) ∧ 0 ≤ st ∧ st ≤ 4 then
   (match l.fPairs[i.toNat]? with | some p => (withP l l.fControlling ((l.fPairs.set i.toNat (putS p st)).map (wakeX l p st)), 0) | none => (l0, 2))
  else (l0, 2)) else (l0, 100)
theorem found_eq {a b : S2String} : ((decide (a.a0 = b.a0)) && ((decide (a.a1 = b.a1)) && true)) = true ↔ a = b := by
 cases a; cases b; simp
theorem wake_at {l : SList} {p : SPair} {st : Int} {i : Nat} {k : Nat} {j : Nat} {y : SPair} (hk : k ≤ l.fPairs.length) (hy : (mapTo (wakeX l p st) (l.fPairs.set i (putS p st)) k)[j]? = some y) (hp : l.fPairs[i]? = some p) :
  ∃ z, l.fPairs[j]? = some z ∧ y.fLocal = z.fLocal ∧ y.fRemote = z.fRemote := by
 rw [mapTo_get _ _ (by rw [List.length_set]; exact hk)] at hy
 obtain ⟨w, hw, rfl⟩ := Option.map_eq_some_iff.1 hy
 have hw2 : ∃ z, l.fPairs[j]? = some z ∧ w.fLocal = z.fLocal ∧ w.fRemote = z.fRemote := by
  by_cases e : i = j
  ·subst e
   have := (List.getElem?_eq_some_iff.1 hp).1
   rw [List.getElem?_set_self this] at hw
   simp only [Option.some.injEq] at hw
   exact ⟨p, hp, by rw [← hw]; exact ⟨rfl, rfl⟩⟩
  ·rw [List.getElem?_set_ne e] at hw
   exact ⟨w, hw, rfl, rfl⟩
 obtain ⟨z, z1, z2, z3⟩ := hw2
 refine ⟨z, z1, ?_⟩
 split
 ·unfold wakeX; split
  ·exact ⟨z2, z3⟩
  ·exact ⟨z2, z3⟩
 ·exact ⟨z2, z3⟩
theorem inB_same {l : SList} {x y : SPair} (h1 : y.fLocal = x.fLocal) (h2 : y.fRemote = x.fRemote) (h : InB l x) : InB l y := by
 unfold InB at *; rw [h1, h2]; exact h
theorem foundK_same {l : SList} {x y : SPair} (h1 : y.fLocal = x.fLocal) (h2 : y.fRemote = x.fRemote) : foundK l y = foundK l x := by
 unfold foundK locC remC; rw [h1, h2]
theorem okSET (l : SList) (i st : Int) : SOk (s23 l i st) (fun r => r = setF l i st) := by
 show Ok (g23 l i st) _
 unfold g23 setF
 refine Ok.call2 (okSTART l) (fun r hv => Ok.tt (Ok.done (by rw [if_neg hv]; rfl))) (fun r hv => ?_)
 have hlen : l.fPairs.length ≤ 36 := hv.1.2.2.1
 rw [if_pos hv]
 refine Ok.ff (Ok.cnd (R := fun b => (b = true ↔ ¬ (0 ≤ i ∧ i < (l.fPairs.length : Int) ∧ 0 ≤ st ∧ st ≤ 4))) ?_ fun b hb => ?_)
 ·refine Ok.br (fun k1 => Ok.done ?_) (fun k1 => Ok.br (fun k2 => Ok.done ?_) (fun k2 => Ok.br (fun k3 => Ok.done ?_) (fun k3 => Ok.done ?_)))
  all_goals (simp at *; omega)
 ·refine Ok.br (fun h => Ok.done (by rw [if_neg (hb.1 h)]; rfl)) (fun h => ?_)
  have hA : 0 ≤ i ∧ i < (l.fPairs.length : Int) ∧ 0 ≤ st ∧ st ≤ 4 := Classical.byContradiction fun hn => by rw [hb.2 hn] at h; simp at h
  obtain ⟨p, hp⟩ := at_of hA.1 hA.2.1
  rw [if_pos hA, hp]
  have hpI := (hv.2.1 p (List.mem_of_getElem? hp)).1
  have hil := (List.getElem?_eq_some_iff.1 hp).1
  refine Ok.chk (by simp; omega) (Ok.row rfl (by rw [Nat.zero_add]; exact hp) (Ok.re (Ok.gh ?_)))
  rw [Nat.zero_add]
  refine Ok.bind (R := fun e => e = (l.fPairs.set i.toNat (putS p st)).map (wakeX l p st)) ?_ fun e he => Ok.gh (Ok.done (by rw [he]; rfl))
  have hL : (l.fPairs.set i.toNat (SPair.mk p.fLocal p.fRemote p.fPriority st)).length = l.fPairs.length := List.length_set
  rw [hL]
  refine Ok.scan l.fPairs.length (by omega) (fun k y => k ≤ l.fPairs.length ∧ y = (mapTo (wakeX l p st) (l.fPairs.set i.toNat (putS p st)) k, (k : Int))) ⟨Nat.zero_le _, by rw [mapTo_zero]; rfl⟩ (fun k y hy hk => ?_) (fun y hy => ?_)
  ·obtain ⟨hkl, rfl⟩ := hy
   have hk2 : k < (l.fPairs.set i.toNat (putS p st)).length := by rw [List.length_set]; exact hk
   have hlk : (mapTo (wakeX l p st) (l.fPairs.set i.toNat (putS p st)) k).length = l.fPairs.length := by rw [mapTo_len _ _ (by omega), List.length_set]
   refine Ok.br (fun hc => ?_) (fun hc => by simp at hc; omega)
   obtain ⟨x, hx1, hx2⟩ := get_lt hk2
   have hx3 : (mapTo (wakeX l p st) (l.fPairs.set i.toNat (putS p st)) k)[0 + ((k : Int)).toNat]? = some x := by rw [Nat.zero_add, Int.toNat_natCast, mapTo_here _ hk2, hx2]
   obtain ⟨z, z1, z2, z3⟩ := wake_at hkl (by rw [mapTo_here _ hk2]; exact hx2) hp
   have hxI : InB l x := inB_same z2 z3 (hv.2.1 z (List.mem_of_getElem? z1)).1
   obtain ⟨q, hq⟩ : ∃ q, (mapTo (wakeX l p st) (l.fPairs.set i.toNat (putS p st)) k)[i.toNat]? = some q := ⟨_, List.getElem?_eq_getElem (by rw [hlk]; exact hil)⟩
   obtain ⟨z', z1', z2', z3'⟩ := wake_at hkl hq hp
   rw [hp] at z1'; simp only [Option.some.injEq] at z1'; subst z1'
   have hqI : InB l q := inB_same z2' z3' hpI
   refine Ok.chk (by simp [hlk]; omega) (Ok.row rfl hx3 ?_)
   refine Ok.cnd (R := fun b => (b = true ↔ (st = 3 ∧ x.fState = 0 ∧ foundK l x = foundK l p))) ?_ fun b2 hb2 => ?_
   ·refine Ok.br (fun k1 => Ok.br (fun k2 => ?_) (fun k2 => Ok.done ?_)) (fun k1 => Ok.done ?_)
    ·simp only [beq_iff_eq] at k1 k2
     refine Ok.view (okFOUND (withP l l.fControlling (mapTo (wakeX l p st) (l.fPairs.set i.toNat (putS p st)) k)) x hxI) fun r1 h1 => Ok.chk (by simp [hlk]; omega) (Ok.row rfl hq (Ok.view (okFOUND (withP l l.fControlling (mapTo (wakeX l p st) (l.fPairs.set i.toNat (putS p st)) k)) q hqI) fun r2 h2 => Ok.done ?_))
     rw [found_eq, h1, h2]
     show foundK l x = foundK l q ↔ _
     rw [foundK_same z2' z3']
     exact ⟨fun h => ⟨k1, k2, h⟩, fun h => h.2.2⟩
    ·simp only [beq_eq_false_iff_ne] at k2
     exact ⟨fun h => by simp at h, fun h => absurd h.2.1 k2⟩
    ·simp only [beq_eq_false_iff_ne] at k1
     exact ⟨fun h => by simp at h, fun h => absurd h.1 k1⟩
   ·refine Ok.br (fun h1 => Ok.chk (by simp [hlk]; omega) (Ok.row rfl hx3 (Ok.re (Ok.gh (Ok.done ?_))))) (fun h1 => Ok.done ?_)
    ·have e : wakeX l p st x = putS x 1 := by unfold wakeX; rw [if_pos (hb2.1 h1)]
     have e2 := mapTo_set (wakeX l p st) hx2
     rw [e] at e2
     refine ⟨hk, ?_⟩
     rw [Nat.zero_add, Int.toNat_natCast, wi64_nat hk (by omega)]
     exact congrArg (fun z => (z, ((k + 1 : Nat) : Int))) e2
    ·have e : wakeX l p st x = x := by unfold wakeX; rw [if_neg (fun h => by rw [hb2.2 h] at h1; simp at h1)]
     refine ⟨hk, ?_⟩
     rw [wi64_nat hk (by omega), ← mapTo_skip _ hx2 e]
  ·obtain ⟨hkl, rfl⟩ := hy
   refine Ok.br (fun hc => by simp at hc) (fun hc => Ok.done ?_)
   show mapTo _ _ _ = _
   have := mapTo_last (wakeX l p st) (l.fPairs.set i.toNat (putS p st))
   rw [List.length_set] at this
   exact this
theorem okRSET (l : SList) (i st : Int) : SOk (s24 l i st) (fun r => r = setF l i st) := by
 show Ok (g24 l i st) _
 unfold g24 setF
 simp only [mlen_eq]
 refine Ok.call (okRIGHT l) fun r hr => Ok.br (fun h => Ok.done ?_) (fun h => ?_)
 ·simp only [Bool.not_eq_true'] at h; subst h
  rw [if_neg (fun hv => by have := hr.2 hv; simp at this)]; rfl
 simp only [Bool.not_eq_false'] at h
 have hv := hr.1 h
 have hlen : l.fPairs.length ≤ 36 := hv.1.2.2.1
 rw [if_pos hv]
 refine Ok.cnd (R := fun b => (b = true ↔ ¬ (0 ≤ i ∧ i < (l.fPairs.length : Int) ∧ 0 ≤ st ∧ st ≤ 4))) ?_ fun b hb => ?_
 ·refine Ok.br (fun k1 => Ok.done ?_) (fun k1 => Ok.br (fun k2 => Ok.done ?_) (fun k2 => Ok.br (fun k3 => Ok.done ?_) (fun k3 => Ok.done ?_)))
  all_goals (simp at *; omega)
 ·refine Ok.br (fun h => Ok.done (by rw [if_neg (hb.1 h)]; rfl)) (fun h => ?_)
  have hA : 0 ≤ i ∧ i < (l.fPairs.length : Int) ∧ 0 ≤ st ∧ st ≤ 4 := Classical.byContradiction fun hn => by rw [hb.2 hn] at h; simp at h
  obtain ⟨p, hp⟩ := at_of hA.1 hA.2.1
  rw [if_pos hA, hp]
  have hpI := (hv.2.1 p (List.mem_of_getElem? hp)).1
  have hil := (List.getElem?_eq_some_iff.1 hp).1
  refine Ok.call (okCOPIED l (by omega)) fun q hq => ?_
  subst hq
  refine Ok.chk (by simp; omega) (Ok.row rfl (by rw [Nat.zero_add]; exact hp) (Ok.re (Ok.gh ?_)))
  rw [Nat.zero_add]
  refine Ok.bind (R := fun e => e = (l.fPairs.set i.toNat (putS p st)).map (wakeX l p st)) ?_ fun e he => Ok.gh (Ok.done (by rw [he]; rfl))
  refine Ok.scan l.fPairs.length (by omega) (fun k y => k ≤ l.fPairs.length ∧ y = (mapTo (wakeX l p st) (l.fPairs.set i.toNat (putS p st)) k, (k : Int))) ⟨Nat.zero_le _, by rw [mapTo_zero]; rfl⟩ (fun k y hy hk => ?_) (fun y hy => ?_)
  ·obtain ⟨hkl, rfl⟩ := hy
   have hk2 : k < (l.fPairs.set i.toNat (putS p st)).length := by rw [List.length_set]; exact hk
   have hlk : (mapTo (wakeX l p st) (l.fPairs.set i.toNat (putS p st)) k).length = l.fPairs.length := by rw [mapTo_len _ _ (by omega), List.length_set]
   refine Ok.cnd (R := fun b => (b = true ↔ st = 3)) (Ok.br (fun hc => Ok.done (by simp)) (fun hc => by simp [hlk] at hc; omega)) fun b3 hb3 => ?_
   refine Ok.br (fun h3 => ?_) (fun h3 => Ok.done ?_)
   ·have hst := hb3.1 h3
    obtain ⟨x, hx1, hx2⟩ := get_lt hk2
    have hx3 : (mapTo (wakeX l p st) (l.fPairs.set i.toNat (putS p st)) k)[0 + ((k : Int)).toNat]? = some x := by rw [Nat.zero_add, Int.toNat_natCast, mapTo_here _ hk2, hx2]
    obtain ⟨z, z1, z2, z3⟩ := wake_at hkl (by rw [mapTo_here _ hk2]; exact hx2) hp
    have hxI : InB l x := inB_same z2 z3 (hv.2.1 z (List.mem_of_getElem? z1)).1
    obtain ⟨q, hq⟩ : ∃ q, (mapTo (wakeX l p st) (l.fPairs.set i.toNat (putS p st)) k)[i.toNat]? = some q := ⟨_, List.getElem?_eq_getElem (by rw [hlk]; exact hil)⟩
    obtain ⟨z', z1', z2', z3'⟩ := wake_at hkl hq hp
    rw [hp] at z1'; simp only [Option.some.injEq] at z1'; subst z1'
    have hqI : InB l q := inB_same z2' z3' hpI
    refine Ok.cnd (R := fun b => (b = true ↔ (st = 3 ∧ x.fState = 0 ∧ foundK l x = foundK l p))) ?_ fun b2 hb2 => ?_
    ·refine Ok.chk (by simp [hlk]; omega) (Ok.row rfl hx3 (Ok.br (fun k2 => ?_) (fun k2 => Ok.done ?_)))
     ·simp only [beq_iff_eq] at k2
      refine Ok.chk (by simp [hlk]; omega) (Ok.row rfl hq (Ok.chk (by simp [hlk]; omega) (Ok.row rfl hx3 (Ok.view (okRELATED (withP l l.fControlling (mapTo (wakeX l p st) (l.fPairs.set i.toNat (putS p st)) k)) q x hqI hxI) fun r2 h2 => Ok.done ?_))))
      rw [h2]
      show foundK l q = foundK l x ↔ _
      rw [foundK_same z2' z3']
      exact ⟨fun h => ⟨hst, k2, h.symm⟩, fun h => h.2.2.symm⟩
     ·simp only [beq_eq_false_iff_ne] at k2
      exact ⟨fun h => by simp at h, fun h => absurd h.2.1 k2⟩
    ·refine Ok.br (fun h1 => Ok.chk (by simp [hlk]; omega) (Ok.row rfl hx3 (Ok.re (Ok.gh (Ok.done ?_))))) (fun h1 => Ok.done ?_)
     ·have e : wakeX l p st x = putS x 1 := by unfold wakeX; rw [if_pos (hb2.1 h1)]
      have e2 := mapTo_set (wakeX l p st) hx2
      rw [e] at e2
      refine ⟨hk, ?_⟩
      rw [Nat.zero_add, Int.toNat_natCast, wi64_nat hk (by omega)]
      exact congrArg (fun z => (z, ((k + 1 : Nat) : Int))) e2
     ·have e : wakeX l p st x = x := by unfold wakeX; rw [if_neg (fun h => by rw [hb2.2 h] at h1; simp at h1)]
      refine ⟨hk, ?_⟩
      rw [wi64_nat hk (by omega), ← mapTo_skip _ hx2 e]
   ·have hst : st ≠ 3 := fun e => by rw [hb3.2 e] at h3; simp at h3
    have id : ∀ L : List SPair, L.map (wakeX l p st) = L := fun L => by
     have : ∀ x, wakeX l p st x = x := fun x => by unfold wakeX; rw [if_neg (fun h => hst h.1)]
     rw [show wakeX l p st = id from funext this, List.map_id]
    show mapTo _ _ _ = _
    rw [id]
    unfold mapTo
    rw [id, List.take_append_drop]
  ·obtain ⟨hkl, rfl⟩ := hy
   have hlk : (mapTo (wakeX l p st) (l.fPairs.set i.toNat (putS p st)) l.fPairs.length).length = l.fPairs.length := by rw [mapTo_len _ _ (by rw [List.length_set]; omega), List.length_set]
   refine Ok.cnd (R := fun b => b = false) (Ok.br (fun hc => by simp [hlk] at hc) (fun hc => Ok.done rfl)) fun b3 hb3 => ?_
   subst hb3
   refine Ok.brF rfl (Ok.done ?_)
   show mapTo _ _ _ = _
   have := mapTo_last (wakeX l p st) (l.fPairs.set i.toNat (putS p st))
   rw [List.length_set] at this
   exact this
end Go.Proofs.YtioobnkmohikjaaGreatDoor
namespace Go.Proofs.YtioobnkmohikjaaGreatDoor
open Go Go.EV
set_option maxRecDepth 100000
structure S2Uint8 where
 a0 : Int
 a1 : Int
structure SDraft1 where
 fLocals : (List SDraft)
 fRemotes : (List SDraft)
 fControlling : Bool
 fSet : (List S2Uint8)
structure S2Tannoyref10Bend where
 a0 : SBend1
 a1 : SBend1
structure S4ApiList where
 a0 : SList
 a1 : SList
 a2 : SList
 a3 : SList
def tyS2Uint8 : Ty S2Uint8 := ⟨fun x => [.int .u8 x.a0, .int .u8 x.a1], fun x => [.int .u8 x.a0, .int .u8 x.a1], fun _ => rfl, fun _ => rfl, fun _ _ => rfl, fun _ => rfl⟩
noncomputable def g12 (p0 : (List SCandidate)) (p1 : (List SCandidate)) (p2 : Bool) : TT (SList × Int) :=
 .cnd 1 [30]
 (.br 1005 (decide ((12 : Int) < (mlen tySCandidate p0)))
  (.done true)
  (.done (decide ((12 : Int) < (mlen tySCandidate p1)))))
 (fun (c397 : Bool) => [.bool c397]) fun c397 =>
 .br 0 c397
 (.done ((SList.mk false [] [] []), 3))
 (.cnd 3 [39]
  (.call 3002 (s39 p0) [] [] fun r398 =>
   .br 3005 (!r398)
   (.done true)
   (.call 3006 (s39 p1) [] [] fun r399 =>
    .done (!r399)))
  (fun (c400 : Bool) => [.bool c400]) fun c400 =>
  .br 0 c400
  (.done ((SList.mk false [] [] []), 90))
  (.gh 1 (.virt 600033 9 4) (.bind 0
   (.lp (fun (l424 : (List SPair) × Int) => Ext.of .normal [(0, .sl false 8 (List.map tySCandidate.c p0)), (1, .sl false 8 (List.map tySCandidate.c p1)), (6, .ptr 6 0 0), (7, .int .i64 0), (8, .ptr 8 0 0), (9, .ref 600033 0 l424.1.length), (10, .int .i64 l424.2)] [(6, ⟨4, true, [[.bool false, .nilsl, .nilsl, .nilsl]]⟩), (8, ⟨4, true, [[.bool p2, .sl false 8 (List.map tySCandidate.c p0), .sl false 8 (List.map tySCandidate.c p1), .nilsl]]⟩)] [BT.of 600033 tySPair 4 l424.1 true] (by rfl))
    (fun l424 =>
     .br 0 (decide (l424.2 < (mlen tySCandidate p0)))
     (.gh 1 (.ren 600033 600037) (.bind 0
      (.lp (fun (l439 : (List SPair) × Int) => Ext.of .normal [(0, .sl false 8 (List.map tySCandidate.c p0)), (1, .sl false 8 (List.map tySCandidate.c p1)), (6, .ptr 6 0 0), (7, .int .i64 0), (8, .ptr 8 0 0), (9, .ref 600037 0 l439.1.length), (10, .int .i64 l424.2), (11, .int .i64 l439.2)] [(6, ⟨4, true, [[.bool false, .nilsl, .nilsl, .nilsl]]⟩), (8, ⟨4, true, [[.bool p2, .sl false 8 (List.map tySCandidate.c p0), .sl false 8 (List.map tySCandidate.c p1), .nilsl]]⟩)] [BT.of 600037 tySPair 4 l439.1 true] (by rfl))
       (fun l439 =>
        .br 0 (decide (l439.2 < (mlen tySCandidate p1)))
        (.row 14003 tySCandidate p0 l424.2.toNat (decide (0 ≤ l424.2)) fun x440 =>
         .row 14007 tySCandidate p1 l439.2.toNat (decide (0 ≤ l439.2)) fun x441 =>
         .call 14009 (s40 x440 x441) [] [] fun r442 =>
         .br 0 r442
         (.call 15003 (s41 (SList.mk p2 p0 p1 []) (SPair.mk l424.2 l439.2 0 0)) [] [] fun r443 =>
          .bind 1
          (.lp (fun (l448 : Int) => Ext.of .normal [(0, .sl false 8 (List.map tySCandidate.c p0)), (1, .sl false 8 (List.map tySCandidate.c p1)), (6, .ptr 6 0 0), (7, .int .i64 0), (8, .ptr 8 0 0), (9, .ref 600037 0 l439.1.length), (10, .int .i64 l424.2), (11, .int .i64 l439.2), (12, .ptr 12 0 0), (13, .int .i64 l448)] [(6, ⟨4, true, [[.bool false, .nilsl, .nilsl, .nilsl]]⟩), (8, ⟨4, true, [[.bool p2, .sl false 8 (List.map tySCandidate.c p0), .sl false 8 (List.map tySCandidate.c p1), .nilsl]]⟩), (12, ⟨4, true, [[.int .i64 l424.2, .int .i64 l439.2, .int .i64 r443, .int .i64 0]]⟩)] [BT.of 600037 tySPair 4 l439.1 true] (by rfl))
           (fun l448 =>
            .cnd 17 [85]
            (.br 17004 (decide ((0 : Int) < l448))
             (.chk 17008 (decide (0 ≤ (wi64 (l448 - 1))) && decide ((wi64 (l448 - 1)) < (l439.1.length : Int))) (.row 17009 tySPair l439.1 (0 + (wi64 (l448 - 1)).toNat) true fun x449 =>
              .call 17010 (s42 (SPair.mk l424.2 l439.2 r443 0) x449) [] [] fun r450 =>
              .done r450))
             (.done false))
            (fun (c451 : Bool) => [.bool c451]) fun c451 =>
            .br 0 c451
            (.done (.inl (wi64 (l448 - 1))))
            (.done (.inr (r443, l448))))
           (l439.1.length : Int))
          (fun (e452 : Int × Int) => Ext.of (.exit 4) [(0, .sl false 8 (List.map tySCandidate.c p0)), (1, .sl false 8 (List.map tySCandidate.c p1)), (6, .ptr 6 0 0), (7, .int .i64 0), (8, .ptr 8 0 0), (9, .ref 600037 0 l439.1.length), (10, .int .i64 l424.2), (11, .int .i64 l439.2), (12, .ptr 12 0 0), (13, .int .i64 e452.2)] [(6, ⟨4, true, [[.bool false, .nilsl, .nilsl, .nilsl]]⟩), (8, ⟨4, true, [[.bool p2, .sl false 8 (List.map tySCandidate.c p0), .sl false 8 (List.map tySCandidate.c p1), .nilsl]]⟩), (12, ⟨4, true, [[.int .i64 l424.2, .int .i64 l439.2, .int .i64 e452.1, .int .i64 0]]⟩)] [BT.of 600037 tySPair 4 l439.1 true] (by rfl))
          (fun e452 =>
           .chk 20004 (decide (0 ≤ e452.2) && decide (e452.2 ≤ (l439.1.length : Int))) (.opr 20005 (Rule.appPart (ty := tySPair) (t := 39) (t2 := 39) (e := 68) (e2 := 68) (z := 4) (bytes := 32) (.tmp 88) (.tmp 91) 92 none true [] 600037 0 e452.2.toNat true l439.1 (by kernel_rfl) (by kernel_rfl) (by kernel_rfl) (by decide) (by kernel_rfl) (fun _ => rfl) (by decide) (by simp)) fun _ =>
           .app 20008 tySPair ([] ++ (l439.1.drop 0).take e452.2.toNat) [(SPair.mk l424.2 l439.2 e452.1 0)] 32 false (by intro h; cases h) (.chk 21004 (decide (0 ≤ e452.2) && decide (e452.2 ≤ (l439.1.length : Int))) (.opr 21005 (Rule.appPart (ty := tySPair) (t := 39) (t2 := 39) (e := 68) (e2 := 68) (z := 4) (bytes := 32) (.tmp 96) (.tmp 99) 100 (some 95) true (([] ++ (l439.1.drop 0).take e452.2.toNat) ++ [(SPair.mk l424.2 l439.2 e452.1 0)]) 600037 e452.2.toNat (l439.1.length - e452.2.toNat) true l439.1 (by kernel_rfl) (by kernel_rfl) (by kernel_rfl) (by decide) (by kernel_rfl) (fun _ => rfl) (by decide) (by simp)) fun _ =>
           .gh 0 (.drop [600037]) (.gh 0 (.ren 100 600037) (.done (.inl (((([] ++ (l439.1.drop 0).take e452.2.toNat) ++ [(SPair.mk l424.2 l439.2 e452.1 0)]) ++ (l439.1.drop e452.2.toNat).take (l439.1.length - e452.2.toNat)), (wi64 (l439.2 + 1)))))))))))
         (.done (.inl (l439.1, (wi64 (l439.2 + 1))))))
        (.done (.inr l439.1)))
       (l424.1, 0))
      (fun (e453 : (List SPair)) => Ext.of (.exit 2) [(0, .sl false 8 (List.map tySCandidate.c p0)), (1, .sl false 8 (List.map tySCandidate.c p1)), (6, .ptr 6 0 0), (7, .int .i64 0), (8, .ptr 8 0 0), (9, .ref 600037 0 e453.length), (10, .int .i64 l424.2)] [(6, ⟨4, true, [[.bool false, .nilsl, .nilsl, .nilsl]]⟩), (8, ⟨4, true, [[.bool p2, .sl false 8 (List.map tySCandidate.c p0), .sl false 8 (List.map tySCandidate.c p1), .nilsl]]⟩)] [BT.of 600037 tySPair 4 e453 true] (by rfl))
      (fun e453 =>
       .gh 0 (.ren 600037 600033) (.done (.inl (e453, (wi64 (l424.2 + 1))))))))
     (.done (.inr l424.1)))
    ([], 0))
   (fun (e454 : (List SPair)) => Ext.of (.exit 0) [(6, .ptr 6 0 0), (7, .int .i64 0), (8, .ptr 8 0 0), (9, .ref 600033 0 e454.length)] [(6, ⟨4, true, [[.bool false, .nilsl, .nilsl, .nilsl]]⟩), (8, ⟨4, true, [[.bool p2, .sl false 8 (List.map tySCandidate.c p0), .sl false 8 (List.map tySCandidate.c p1), .nilsl]]⟩)] [BT.of 600033 tySPair 4 e454 true] (by rfl))
   (fun e454 =>
    .gh 1 (.virtC 600039 8 3 4) (.bind 0
    (.lp (fun (l457 : (List SPair) × Int) => Ext.of .normal [(6, .ptr 6 0 0), (7, .int .i64 0), (8, .ptr 8 0 0), (9, .ref 600033 0 e454.length), (15, .int .i64 l457.2)] [(6, ⟨4, true, [[.bool false, .nilsl, .nilsl, .nilsl]]⟩), (8, ⟨4, true, [[.bool p2, .sl false 8 (List.map tySCandidate.c p0), .sl false 8 (List.map tySCandidate.c p1), .ref 600039 0 l457.1.length]]⟩)] [BT.of 600033 tySPair 4 e454 true, BT.of 600039 tySPair 4 l457.1 true] (by rfl))
     (fun l457 =>
      .br 0 (decide (l457.2 < (e454.length : Int)))
      (.bind 2
       (.lp (fun (l462 : Bool × Int) => Ext.of .normal [(6, .ptr 6 0 0), (7, .int .i64 0), (8, .ptr 8 0 0), (9, .ref 600033 0 e454.length), (15, .int .i64 l457.2), (16, .bool l462.1), (17, .int .i64 l462.2)] [(6, ⟨4, true, [[.bool false, .nilsl, .nilsl, .nilsl]]⟩), (8, ⟨4, true, [[.bool p2, .sl false 8 (List.map tySCandidate.c p0), .sl false 8 (List.map tySCandidate.c p1), .ref 600039 0 l457.1.length]]⟩)] [BT.of 600033 tySPair 4 e454 true, BT.of 600039 tySPair 4 l457.1 true] (by rfl))
        (fun l462 =>
         .br 0 (decide (l462.2 < l457.2))
         (.cnd 29 [16]
          (.br 29003 l462.1
           (.done true)
           (.chk 29006 (decide (0 ≤ l457.2) && decide (l457.2 < (e454.length : Int))) (.row 29007 tySPair e454 (0 + l457.2.toNat) true fun x463 =>
            .chk 29010 (decide (0 ≤ l462.2) && decide (l462.2 < (e454.length : Int))) (.row 29011 tySPair e454 (0 + l462.2.toNat) true fun x464 =>
            .view 29012 (s43 (SList.mk p2 p0 p1 l457.1) x463 x464) [(VwW.of 600039 tySPair l457.1)] fun r465 =>
            .done r465))))
          (fun (c466 : Bool) => [.bool c466]) fun c466 =>
          .done (.inl (c466, (wi64 (l462.2 + 1)))))
         (.done (.inr l462.1)))
        (false, 0))
       (fun (e467 : Bool) => Ext.of (.exit 8) [(6, .ptr 6 0 0), (7, .int .i64 0), (8, .ptr 8 0 0), (9, .ref 600033 0 e454.length), (15, .int .i64 l457.2), (16, .bool e467)] [(6, ⟨4, true, [[.bool false, .nilsl, .nilsl, .nilsl]]⟩), (8, ⟨4, true, [[.bool p2, .sl false 8 (List.map tySCandidate.c p0), .sl false 8 (List.map tySCandidate.c p1), .ref 600039 0 l457.1.length]]⟩)] [BT.of 600033 tySPair 4 e454 true, BT.of 600039 tySPair 4 l457.1 true] (by rfl))
       (fun e467 =>
        .cnd 30 [132]
        (.br 30004 (!e467)
         (.done (decide ((l457.1.length : Int) < 36)))
         (.done false))
        (fun (c468 : Bool) => [.bool c468]) fun c468 =>
        .br 0 c468
        (.chk 31005 (decide (0 ≤ l457.2) && decide (l457.2 < (e454.length : Int))) (.row 31006 tySPair e454 (0 + l457.2.toNat) true fun x469 =>
         .app 31008 tySPair l457.1 [x469] 32 false (by intro h; cases h) (.gh 0 (.drop [600039]) (.gh 0 (.ren 140 600039) (.done (.inl ((l457.1 ++ [x469]), (wi64 (l457.2 + 1)))))))))
        (.done (.inl (l457.1, (wi64 (l457.2 + 1)))))))
      (.done (.inr l457.1)))
     ([], 0))
    (fun (e470 : (List SPair)) => Ext.of (.exit 6) [(6, .ptr 6 0 0), (7, .int .i64 0), (8, .ptr 8 0 0)] [(6, ⟨4, true, [[.bool false, .nilsl, .nilsl, .nilsl]]⟩), (8, ⟨4, true, [[.bool p2, .sl false 8 (List.map tySCandidate.c p0), .sl false 8 (List.map tySCandidate.c p1), .ref 600039 0 e470.length]]⟩)] [BT.of 600039 tySPair 4 e470 true] (by rfl))
    (fun e470 =>
     .bind 1
     (.lp (fun (l490 : (List SPair) × Int) => Ext.of .normal [(6, .ptr 6 0 0), (7, .int .i64 0), (8, .ptr 8 0 0), (18, .int .i64 l490.2)] [(6, ⟨4, true, [[.bool false, .nilsl, .nilsl, .nilsl]]⟩), (8, ⟨4, true, [[.bool p2, .sl false 8 (List.map tySCandidate.c p0), .sl false 8 (List.map tySCandidate.c p1), .ref 600039 0 l490.1.length]]⟩)] [BT.of 600039 tySPair 4 l490.1 true] (by rfl))
      (fun l490 =>
       .br 0 (decide (l490.2 < (l490.1.length : Int)))
       (.chk 35006 (decide (0 ≤ l490.2) && decide (l490.2 < (l490.1.length : Int))) (.row 35008 tySPair l490.1 (0 + l490.2.toNat) true fun x491 =>
        .row 35009 tySCandidate p0 x491.fLocal.toNat (decide (0 ≤ x491.fLocal)) fun x492 =>
        .bind 1
        (.lp (fun (l500 : Bool × Int) => Ext.of .normal [(6, .ptr 6 0 0), (7, .int .i64 0), (8, .ptr 8 0 0), (18, .int .i64 l490.2), (19, .int .i64 x492.fComponent), (20, .bool l500.1), (21, .int .i64 l500.2)] [(6, ⟨4, true, [[.bool false, .nilsl, .nilsl, .nilsl]]⟩), (8, ⟨4, true, [[.bool p2, .sl false 8 (List.map tySCandidate.c p0), .sl false 8 (List.map tySCandidate.c p1), .ref 600039 0 l490.1.length]]⟩)] [BT.of 600039 tySPair 4 l490.1 true] (by rfl))
         (fun l500 =>
          .br 0 (decide (l500.2 < (l490.1.length : Int)))
          (.chk 40006 (decide (0 ≤ l500.2) && decide (l500.2 < (l490.1.length : Int))) (.row 40008 tySPair l490.1 (0 + l500.2.toNat) true fun x501 =>
           .row 40009 tySCandidate p0 x501.fLocal.toNat (decide (0 ≤ x501.fLocal)) fun x502 =>
           .cnd 41 [204]
           (.chk 41005 (decide (0 ≤ l490.2) && decide (l490.2 < (l490.1.length : Int))) (.row 41006 tySPair l490.1 (0 + l490.2.toNat) true fun x503 =>
            .chk 41010 (decide (0 ≤ l500.2) && decide (l500.2 < (l490.1.length : Int))) (.row 41011 tySPair l490.1 (0 + l500.2.toNat) true fun x504 =>
            .view 41012 (s44 (SList.mk p2 p0 p1 l490.1) x503 x504) [(VwW.of 600039 tySPair l490.1)] fun r505 =>
            .br 41014 r505
            (.br 41018 (decide (x502.fComponent < x492.fComponent))
             (.done true)
             (.br 41022 (x502.fComponent == x492.fComponent)
              (.done (decide (l500.2 < l490.2)))
              (.done false)))
            (.done false))))
           (fun (c506 : Bool) => [.bool c506]) fun c506 =>
           .br 0 c506
           (.done (.inl (false, (wi64 (l500.2 + 1)))))
           (.done (.inl (l500.1, (wi64 (l500.2 + 1)))))))
          (.done (.inr l500.1)))
         (true, 0))
        (fun (e507 : Bool) => Ext.of (.exit 12) [(6, .ptr 6 0 0), (7, .int .i64 0), (8, .ptr 8 0 0), (18, .int .i64 l490.2), (20, .bool e507)] [(6, ⟨4, true, [[.bool false, .nilsl, .nilsl, .nilsl]]⟩), (8, ⟨4, true, [[.bool p2, .sl false 8 (List.map tySCandidate.c p0), .sl false 8 (List.map tySCandidate.c p1), .ref 600039 0 l490.1.length]]⟩)] [BT.of 600039 tySPair 4 l490.1 true] (by rfl))
        (fun e507 =>
         .br 0 e507
         (.chk 44004 (decide (0 ≤ l490.2) && decide (l490.2 < (l490.1.length : Int))) (.row 44006 tySPair l490.1 (0 + l490.2.toNat) true fun x508 =>
          .re 44006 (ReW.put 600039 4 tySPair l490.1 (0 + l490.2.toNat) (SPair.mk x508.fLocal x508.fRemote x508.fPriority 1)) (.gh 36 (.len 600039 ((l490.1.set (0 + l490.2.toNat) (SPair.mk x508.fLocal x508.fRemote x508.fPriority 1)).length) [l490.1.length] (by simp)) (.done (.inl ((l490.1.set (0 + l490.2.toNat) (SPair.mk x508.fLocal x508.fRemote x508.fPriority 1)), (wi64 (l490.2 + 1))))))))
         (.done (.inl (l490.1, (wi64 (l490.2 + 1))))))))
       (.done (.inr l490.1)))
      (e470, 0))
     (fun (e509 : (List SPair)) => Ext.of (.exit 10) [(6, .ptr 6 0 0), (7, .int .i64 0), (8, .ptr 8 0 0)] [(6, ⟨4, true, [[.bool false, .nilsl, .nilsl, .nilsl]]⟩), (8, ⟨4, true, [[.bool p2, .sl false 8 (List.map tySCandidate.c p0), .sl false 8 (List.map tySCandidate.c p1), .ref 600039 0 e509.length]]⟩)] [BT.of 600039 tySPair 4 e509 true] (by rfl))
     (fun e509 =>
      .gh 0 (.share (VwW.of 600039 tySPair e509) 1) (.done ((SList.mk p2 p0 p1 e509), 0)))))))))
theorem k12 (p0 : (List SCandidate)) (p1 : (List SCandidate)) (p2 : Bool) : FnD Tryz.prog GG [0, 1, 2, 6, 7, 8, 9, 10, 11, 12, 13, 14, 15, 16, 17, 18, 19, 20, 21, 22, 30, 39, 48, 54, 68, 85, 104, 109, 132, 146, 164, 204, 205] Tryz.f12 [.sl false 8 (List.map tySCandidate.c p0), .sl false 8 (List.map tySCandidate.c p1), .bool p2] (g12 p0 p1 p2) (fun r => .tup [.agg [.bool r.1.fControlling, .sl false 8 (List.map tySCandidate.c r.1.fLocals), .sl false 8 (List.map tySCandidate.c r.1.fRemotes), .sl false 4 (List.map tySPair.c r.1.fPairs)], .int .i64 r.2]) := by unfold FnD; kernel_rfl
noncomputable def s12 (p0 : (List SCandidate)) (p1 : (List SCandidate)) (p2 : Bool) : EV.Spec Tryz.prog GG (SList × Int) := .ofFn 12 mixed Tryz.func12 (k12 p0 p1 p2)
noncomputable def g25 (p0 : SDraft1) : TT (SList) :=
 .call 1003 (s8 p0.fLocals 12) [] [] fun r510 =>
 .call 1006 (s8 p0.fRemotes 12) [] [] fun r511 =>
 .call 1009 (s12 r510 r511 p0.fControlling) [] [] fun r512 =>
 .bind 1
 (.lp (fun (l518 : Bool × (List SCandidate) × (List SCandidate) × (List SPair) × Int) => Ext.lit .normal [(1, .ptr 1 0 0), (2, .ptr 2 0 0), (3, .ptr 3 0 0), (5, .int .i64 l518.2.2.2.2)] [(1, ⟨4, true, [[.sl false 6 (List.map tySDraft.c p0.fLocals), .sl false 6 (List.map tySDraft.c p0.fRemotes), .bool p0.fControlling, .sl false 2 (List.map tyS2Uint8.c p0.fSet)]]⟩), (2, ⟨4, true, [[.bool false, .nilsl, .nilsl, .nilsl]]⟩), (3, ⟨4, true, [[.bool l518.1, .sl false 8 (List.map tySCandidate.c l518.2.1), .sl false 8 (List.map tySCandidate.c l518.2.2.1), .sl false 4 (List.map tySPair.c l518.2.2.2.1)]]⟩)])
  (fun l518 =>
   .cnd 3 [32]
   (.br 3007 (decide (l518.2.2.2.2 < (mlen tyS2Uint8 p0.fSet)))
    (.br 3011 (decide (l518.2.2.2.2 < 10))
     (.done (decide ((0 : Int) < (mlen tySPair l518.2.2.2.1))))
     (.done false))
    (.done false))
   (fun (c519 : Bool) => [.bool c519]) fun c519 =>
   .br 0 c519
   (.row 5005 tyS2Uint8 p0.fSet l518.2.2.2.2.toNat (decide (0 ≤ l518.2.2.2.2)) fun x520 =>
    .chk 5012 (!((mlen tySPair l518.2.2.2.1) == 0)) (.row 5016 tyS2Uint8 p0.fSet l518.2.2.2.2.toNat (decide (0 ≤ l518.2.2.2.2)) fun x521 =>
    .call 5021 (s24 (SList.mk l518.1 l518.2.1 l518.2.2.1 l518.2.2.2.1) (Int.tmod (wi64 x520.a0) (mlen tySPair l518.2.2.2.1)) (wi64 (Int.tmod x521.a1 5))) [] [] fun r522 =>
    .done (.inl (r522.1.fControlling, r522.1.fLocals, r522.1.fRemotes, r522.1.fPairs, (wi64 (l518.2.2.2.2 + 1))))))
   (.done (.inr (l518.1, l518.2.1, l518.2.2.1, l518.2.2.2.1))))
  (r512.1.fControlling, r512.1.fLocals, r512.1.fRemotes, r512.1.fPairs, 0))
 (fun (e523 : Bool × (List SCandidate) × (List SCandidate) × (List SPair)) => Ext.lit (.exit 0) [(2, .ptr 2 0 0), (3, .ptr 3 0 0)] [(2, ⟨4, true, [[.bool false, .nilsl, .nilsl, .nilsl]]⟩), (3, ⟨4, true, [[.bool e523.1, .sl false 8 (List.map tySCandidate.c e523.2.1), .sl false 8 (List.map tySCandidate.c e523.2.2.1), .sl false 4 (List.map tySPair.c e523.2.2.2)]]⟩)])
 (fun e523 =>
  .done (SList.mk e523.1 e523.2.1 e523.2.2.1 e523.2.2.2))
theorem k25 (p0 : SDraft1) : FnD Tryz.prog GG [0, 1, 2, 3, 5, 32] Tryz.f25 [.agg [.sl false 6 (List.map tySDraft.c p0.fLocals), .sl false 6 (List.map tySDraft.c p0.fRemotes), .bool p0.fControlling, .sl false 2 (List.map tyS2Uint8.c p0.fSet)]] (g25 p0) (fun r => .agg [.bool r.fControlling, .sl false 8 (List.map tySCandidate.c r.fLocals), .sl false 8 (List.map tySCandidate.c r.fRemotes), .sl false 4 (List.map tySPair.c r.fPairs)]) := by unfold FnD; kernel_rfl
noncomputable def s25 (p0 : SDraft1) : EV.Spec Tryz.prog GG (SList) := .ofFn 25 mixed Tryz.func25 (k25 p0)
noncomputable def g13 (p0 : SList) (p1 : SList) : TT (Bool) :=
 .cnd 1 [35]
 (.br 1007 (!(p0.fControlling == p1.fControlling))
  (.done true)
  (.call 1011 (s45 p0.fLocals p1.fLocals) [] [] fun r524 =>
   .br 1015 (!r524)
   (.done true)
   (.call 1019 (s45 p0.fRemotes p1.fRemotes) [] [] fun r525 =>
    .br 1023 (!r525)
    (.done true)
    (.done ((mlen tySPair p0.fPairs) != (mlen tySPair p1.fPairs))))))
 (fun (c526 : Bool) => [.bool c526]) fun c526 =>
 .br 0 c526
 (.done false)
 (.bind2 1
  (.lp (fun (l530 : Int) => Ext.lit .normal [(2, .ptr 2 0 0), (3, .ptr 3 0 0), (4, .bool false), (5, .int .i64 l530)] [(2, ⟨4, true, [[.bool p0.fControlling, .sl false 8 (List.map tySCandidate.c p0.fLocals), .sl false 8 (List.map tySCandidate.c p0.fRemotes), .sl false 4 (List.map tySPair.c p0.fPairs)]]⟩), (3, ⟨4, true, [[.bool p1.fControlling, .sl false 8 (List.map tySCandidate.c p1.fLocals), .sl false 8 (List.map tySCandidate.c p1.fRemotes), .sl false 4 (List.map tySPair.c p1.fPairs)]]⟩)])
   (fun l530 =>
    .br 0 (decide (l530 < (mlen tySPair p0.fPairs)))
    (.row 6004 tySPair p0.fPairs l530.toNat (decide (0 ≤ l530)) fun x531 =>
     .row 6009 tySPair p1.fPairs l530.toNat (decide (0 ≤ l530)) fun x532 =>
     .br 0 (!((x531.fLocal == x532.fLocal) && ((x531.fRemote == x532.fRemote) && ((x531.fPriority == x532.fPriority) && ((x531.fState == x532.fState) && true)))))
     (.done (.inr (.inl ())))
     (.done (.inl (wi64 (l530 + 1)))))
    (.done (.inr (.inr ()))))
   0)
  (fun (_ : Unit) => Ext.lit .ret [(4, .bool false)] [])
  (fun (_ : Unit) => Ext.lit (.exit 0) [(4, .bool false)] [])
  (fun _ =>
   .done false)
  (fun _ =>
   .done true))
theorem k13 (p0 : SList) (p1 : SList) : FnD Tryz.prog GG [0, 1, 2, 3, 4, 5, 35, 40, 53] Tryz.f13 [.agg [.bool p0.fControlling, .sl false 8 (List.map tySCandidate.c p0.fLocals), .sl false 8 (List.map tySCandidate.c p0.fRemotes), .sl false 4 (List.map tySPair.c p0.fPairs)], .agg [.bool p1.fControlling, .sl false 8 (List.map tySCandidate.c p1.fLocals), .sl false 8 (List.map tySCandidate.c p1.fRemotes), .sl false 4 (List.map tySPair.c p1.fPairs)]] (g13 p0 p1) (fun r => .bool r) := by unfold FnD; kernel_rfl
noncomputable def s13 (p0 : SList) (p1 : SList) : EV.Spec Tryz.prog GG (Bool) := .ofFn 13 mixed Tryz.func13 (k13 p0 p1)
noncomputable def g14 (p0 : SDraft1) (p1 : S2Tannoyref10Bend) (p2 : SList) : TT (S4ApiList) :=
 .call 1002 (s25 p0) [] [] fun r535 =>
 .call 2005 (s47 p1.a0 r535) [] [] fun r536 =>
 .call 2006 (s46 r536) [] [] fun r537 =>
 .call 2012 (s47 p1.a0 r535) [] [] fun r538 =>
 .call 2013 (s47 p1.a1 r538) [] [] fun r539 =>
 .call 2014 (s46 r539) [] [] fun r540 =>
 .call 2016 (s46 p2) [] [] fun r541 =>
 .done (S4ApiList.mk r535 r537 r540 r541)
theorem k14 (p0 : SDraft1) (p1 : S2Tannoyref10Bend) (p2 : SList) : FnD Tryz.prog GG [0, 1, 2, 3, 4, 5, 6, 7] Tryz.f14 [.agg [.sl false 6 (List.map tySDraft.c p0.fLocals), .sl false 6 (List.map tySDraft.c p0.fRemotes), .bool p0.fControlling, .sl false 2 (List.map tyS2Uint8.c p0.fSet)], .agg [.int .u8 p1.a0.fWhat, .int .u8 p1.a0.fAt, .int .i64 p1.a0.fN, .int .u8 p1.a0.fC.fWhat, .int .i64 p1.a0.fC.fN, .str p1.a0.fC.fS, .str p1.a0.fC.fA.fHost, .int .i64 p1.a0.fC.fA.fPort, .int .u8 p1.a1.fWhat, .int .u8 p1.a1.fAt, .int .i64 p1.a1.fN, .int .u8 p1.a1.fC.fWhat, .int .i64 p1.a1.fC.fN, .str p1.a1.fC.fS, .str p1.a1.fC.fA.fHost, .int .i64 p1.a1.fC.fA.fPort], .agg [.bool p2.fControlling, .sl false 8 (List.map tySCandidate.c p2.fLocals), .sl false 8 (List.map tySCandidate.c p2.fRemotes), .sl false 4 (List.map tySPair.c p2.fPairs)]] (g14 p0 p1 p2) (fun r => .agg [.bool r.a0.fControlling, .sl false 8 (List.map tySCandidate.c r.a0.fLocals), .sl false 8 (List.map tySCandidate.c r.a0.fRemotes), .sl false 4 (List.map tySPair.c r.a0.fPairs), .bool r.a1.fControlling, .sl false 8 (List.map tySCandidate.c r.a1.fLocals), .sl false 8 (List.map tySCandidate.c r.a1.fRemotes), .sl false 4 (List.map tySPair.c r.a1.fPairs), .bool r.a2.fControlling, .sl false 8 (List.map tySCandidate.c r.a2.fLocals), .sl false 8 (List.map tySCandidate.c r.a2.fRemotes), .sl false 4 (List.map tySPair.c r.a2.fPairs), .bool r.a3.fControlling, .sl false 8 (List.map tySCandidate.c r.a3.fLocals), .sl false 8 (List.map tySCandidate.c r.a3.fRemotes), .sl false 4 (List.map tySPair.c r.a3.fPairs)]) := by unfold FnD; kernel_rfl
noncomputable def s14 (p0 : SDraft1) (p1 : S2Tannoyref10Bend) (p2 : SList) : EV.Spec Tryz.prog GG (S4ApiList) := .ofFn 14 mixed Tryz.func14 (k14 p0 p1 p2)
end Go.Proofs.YtioobnkmohikjaaGreatDoor
namespace Go.Proofs.YtioobnkmohikjaaGreatDoor
open Go Go.EV
set_option maxRecDepth 100000
open Classical
theorem okSAMEC (l : List SCandidate) (hl : l.length ≤ 1000000) : SOk (s45 l l) (fun b => b = true) := by
 show Ok (g45 l l) _
 unfold g45
 simp only [mlen_eq]
 refine Ok.brF (by simp) (Ok.bind2 (R := fun e => match e with | .inl _ => False | .inr _ => True) ?_ (fun e he => he.elim) (fun e he => Ok.done rfl))
 refine Ok.scan l.length hl (fun k y => y = (k : Int)) rfl (fun k y hy hk => ?_) (fun y hy => ?_)
 ·subst hy
  refine Ok.br (fun hc => ?_) (fun hc => by simp at hc; omega)
  obtain ⟨x, hx1, hx2⟩ := get_lt hk
  exact Ok.row (by simp) hx1 (Ok.row (by simp) hx1 (Ok.brF (by simp) (Ok.done (wi64_nat hk hl))))
 ·subst hy
  exact Ok.br (fun hc => by simp at hc) (fun hc => Ok.done trivial)
theorem okSAME (l : SList) (h1 : l.fLocals.length ≤ 1000000) (h2 : l.fRemotes.length ≤ 1000000) (h3 : l.fPairs.length ≤ 1000000) : SOk (s13 l l) (fun b => b = true) := by
 show Ok (g13 l l) _
 unfold g13
 simp only [mlen_eq]
 refine Ok.cnd (R := fun c => c = false) (Ok.brF (by simp) (Ok.call (okSAMEC _ h1) fun r hr => Ok.brF (by rw [hr]; rfl) (Ok.call (okSAMEC _ h2) fun r hr => Ok.brF (by rw [hr]; rfl) (Ok.done (by simp))))) fun c hc => ?_
 refine Ok.brF hc (Ok.bind2 (R := fun e => match e with | .inl _ => False | .inr _ => True) ?_ (fun e he => he.elim) (fun e he => Ok.done rfl))
 refine Ok.scan l.fPairs.length h3 (fun k y => y = (k : Int)) rfl (fun k y hy hk => ?_) (fun y hy => ?_)
 ·subst hy
  refine Ok.br (fun hc => ?_) (fun hc => by simp at hc; omega)
  obtain ⟨x, hx1, hx2⟩ := get_lt hk
  exact Ok.row (by simp) hx1 (Ok.row (by simp) hx1 (Ok.brF (by simp) (Ok.done (wi64_nat hk h3))))
 ·subst hy
  exact Ok.br (fun hc => by simp at hc) (fun hc => Ok.done trivial)
end Go.Proofs.YtioobnkmohikjaaGreatDoor
