/- Guides and contracts, printed by a program.
   Guides and contracts, printed by a program.
   Guides and contracts, printed by a program.
   Guides and contracts, printed by a program.
   Guides and contracts, printed by a program.
   Guides and contracts, printed by a program.
   What the functions of nat and of its reference say of a NAT's validity: one condition for both. Conditions: lists no longer than a machine holds.
   What nat and its reference say of whole NATs: one condition, Valid, for both. Conditions: lists no longer than a machine holds.
   What the reference says of whole NATs. Conditions: lists no longer than a machine holds.
   Errors, Check, start, Expire, At and Same of a NAT. Conditions: lists no longer than a machine holds.
   The NATs that the laws look at: they come to be, and are small. Conditions: a number of eight bits is one.
   Small facts of tables. No conditions.
   What In and the reference's In say. Conditions: lists no longer than a machine holds.
   What Out says: the ports, the bindings' place, and what becomes of it. Conditions: lists no longer than a machine holds.
   What nat's Out and the reference's Out say: one and the same. Conditions: lists no longer than a machine holds. -/
import Derived.Test.YtdiagiflihpidaaDoorQ8
import Derived.Test.YtdiagiflihpidaaDoorQ6
import Derived.Test.YtdiagiflihpidaaDoorQ7
import Derived.KernelRfl
namespace Go.Proofs.YtdiagiflihpidaaDoor
open Go Go.EV
set_option maxRecDepth 100000
structure SHost1 where
 fIp : ByteArray
 fNat : Int
 fDelay : Int
 fLose : Int
 fCount : Int
structure SFlight where
 fDue : Int
 fSerial : Int
 fVia : Int
 fWithin : Int
 fFrom : SAddr
 fTo : SAddr
 fData : ByteArray
structure SNetwork where
 fHosts : (List SHost1)
 fNats : (List SNat)
 fQueue : (List SFlight)
 fNow : Int
 fSerial : Int
structure SCarrier where
 fNetwork : SNetwork
structure SPlace where
 fnat : Int
 fip : ByteArray
structure SEnt191 where
 fk : SPlace
 fv : Bool
structure SEnt192 where
 fk : ByteArray
 fv : Bool
def tySHost1 : Ty SHost1 := ⟨fun x => [.str x.fIp, .int .i64 x.fNat, .int .i64 x.fDelay, .int .i64 x.fLose, .int .i64 x.fCount], fun x => [.str x.fIp, .int .i64 x.fNat, .int .i64 x.fDelay, .int .i64 x.fLose, .int .i64 x.fCount], fun _ => rfl, fun _ => rfl, fun _ _ => rfl, fun _ => rfl⟩
def tySNat : Ty SNat := ⟨fun x => [.int .i64 x.fMapping, .int .i64 x.fFilter, .int .i64 x.fTimeout, .bool x.fHairpin, .str x.fHost, .int .i64 x.fLow, .int .i64 x.fHigh, .int .i64 x.fNow, .sl false 7 (List.map tySBinding.c x.fTable)], fun x => [.int .i64 x.fMapping, .int .i64 x.fFilter, .int .i64 x.fTimeout, .bool x.fHairpin, .str x.fHost, .int .i64 x.fLow, .int .i64 x.fHigh, .int .i64 x.fNow, .sl false 7 (List.map tySBinding.c x.fTable)], fun _ => rfl, fun _ => rfl, fun _ _ => rfl, fun _ => rfl⟩
def tySFlight : Ty SFlight := ⟨fun x => [.int .i64 x.fDue, .int .i64 x.fSerial, .int .i64 x.fVia, .int .i64 x.fWithin, .str x.fFrom.fHost, .int .i64 x.fFrom.fPort, .str x.fTo.fHost, .int .i64 x.fTo.fPort, .str x.fData], fun x => [.int .i64 x.fDue, .int .i64 x.fSerial, .int .i64 x.fVia, .int .i64 x.fWithin, .str x.fFrom.fHost, .int .i64 x.fFrom.fPort, .str x.fTo.fHost, .int .i64 x.fTo.fPort, .str x.fData], fun _ => rfl, fun _ => rfl, fun _ _ => rfl, fun _ => rfl⟩
def tySEnt191 : Ty SEnt191 := ⟨fun x => [.int .i64 x.fk.fnat, .str x.fk.fip, .bool x.fv], fun x => [.int .i64 x.fk.fnat, .str x.fk.fip, .bool x.fv], fun _ => rfl, fun _ => rfl, fun _ _ => rfl, fun _ => rfl⟩
def tySEnt192 : Ty SEnt192 := ⟨fun x => [.str x.fk, .bool x.fv], fun x => [.str x.fk, .bool x.fv], fun _ => rfl, fun _ => rfl, fun _ _ => rfl, fun _ => rfl⟩
noncomputable def g68 (p0 : Int) (p1 : Int) (p2 : Int) : TT (Bool) :=
 .cnd 1 [6]
 (.br 1005 (decide (p1 ≤ p0))
  (.done (decide (p0 ≤ p2)))
  (.done false))
 (fun (c311 : Bool) => [.bool c311]) fun c311 =>
 .done c311
theorem k68 (p0 : Int) (p1 : Int) (p2 : Int) : FnD Tryd.prog GG [0, 1, 2, 6] Tryd.f68 [.int .i64 p0, .int .i64 p1, .int .i64 p2] (g68 p0 p1 p2) (fun r => .bool r) := by unfold FnD; kernel_rfl
noncomputable def s68 (p0 : Int) (p1 : Int) (p2 : Int) : EV.Spec Tryd.prog GG (Bool) := .ofFn 68 mixed Tryd.func68 (k68 p0 p1 p2)
noncomputable def g101 (p0 : SCarrier) : TT (Bool) :=
 .row 1006 tySHost1 p0.fNetwork.fHosts 0 true fun x308 =>
 .opr 2001 (Rule.makeMap 191 20 1114370 (by decide)) fun _ =>
 .opr 3001 (Rule.makeMap 192 21 1048833 (by decide)) fun _ =>
 .bind2 1
 (.lp (fun (l316 : (List SEnt191) × (List SEnt192) × Int) => Ext.of .normal [(0, .snap [.sl false 5 (List.map tySHost1.c p0.fNetwork.fHosts), .sl false 9 (List.map tySNat.c p0.fNetwork.fNats), .sl false 9 (List.map tySFlight.c p0.fNetwork.fQueue), .int .i64 p0.fNetwork.fNow, .int .i64 p0.fNetwork.fSerial]), (2, .bool false), (3, .int .i64 (x308.fIp.size : Int)), (4, .mp 20), (5, .mp 21), (26, .sl false 5 (List.map tySHost1.c p0.fNetwork.fHosts)), (27, .int .i64 (mlen tySHost1 p0.fNetwork.fHosts)), (28, .int .i64 l316.2.2)] [] [BT.of 20 tySEnt191 1114370 l316.1 true, BT.of 21 tySEnt192 1048833 l316.2.1 true] (by rfl))
  (fun l316 =>
   .br 0 (decide (l316.2.2 < (mlen tySHost1 p0.fNetwork.fHosts)))
   (.row 6001 tySHost1 p0.fNetwork.fHosts l316.2.2.toNat (decide (0 ≤ l316.2.2)) fun x317 =>
    .cnd 8 [77]
    (.br 8007 ((x317.fIp.size : Int) != (x308.fIp.size : Int))
     (.done true)
     (.call 8016 (s68 x317.fNat (-1) (wi64 ((mlen tySNat p0.fNetwork.fNats) - 1))) [] [] fun r318 =>
      .br 8020 (!r318)
      (.done true)
      (.call 8022 (s68 x317.fDelay 0 10000) [] [] fun r319 =>
       .br 8026 (!r319)
       (.done true)
       (.call 8028 (s68 x317.fLose 0 100) [] [] fun r320 =>
        .br 8032 (!r320)
        (.done true)
        (.call 8034 (s68 x317.fCount 0 1099511627776) [] [] fun r321 =>
         .br 8038 (!r321)
         (.done true)
         (.opr 8040 (Rule.look (mt := 191) (kt := 166) (et := 4) (z := 1114370) (ty := tySEnt191) (p := (fun x => ((x317.fNat == x.fk.fnat) && ((decide (x317.fIp = x.fk.fip)) && true)))) (kc := [.int .i64 x317.fNat, .str x317.fIp]) (.tmp 74) (.tmp 75) 76 20 true l316.1 (.bool false) (.bool (mlook l316.1 (fun x => ((x317.fNat == x.fk.fnat) && ((decide (x317.fIp = x.fk.fip)) && true))) (fun x => x.fv) false)) ⟨by kernel_rfl, by kernel_rfl, by kernel_rfl, fun _ => by kernel_rfl⟩ (by kernel_rfl) (mlook_map _ _ (fun x : SEnt191 => x.fv) false V.bool)) fun _ =>
          .done (mlook l316.1 (fun x => ((x317.fNat == x.fk.fnat) && ((decide (x317.fIp = x.fk.fip)) && true))) (fun x => x.fv) false)))))))
    (fun (c322 : Bool) => [.bool c322]) fun c322 =>
    .br 0 c322
    (.done (.inr (.inl (l316.2.1, (x308.fIp.size : Int)))))
    (.opr 10006 (Rule.put (mt := 191) (kt := 166) (et := 4) (z := 1114370) (ty := tySEnt191) (p := (fun x => ((x317.fNat == x.fk.fnat) && ((decide (x317.fIp = x.fk.fip)) && true)))) (kc := [.int .i64 x317.fNat, .str x317.fIp]) (.tmp 78) (.tmp 79) (.const (.bool true)) 20 l316.1 (SEnt191.mk (SPlace.mk x317.fNat x317.fIp) true) [.bool true] ⟨by kernel_rfl, by kernel_rfl, by kernel_rfl, fun _ => by kernel_rfl⟩ (by rfl) (by kernel_rfl) (by kernel_rfl) (by decide) (by decide)) fun _ =>
     .opr 10007 (Rule.put (mt := 192) (kt := 9) (et := 4) (z := 1048833) (ty := tySEnt192) (p := (fun x => (decide (x317.fIp = x.fk)))) (kc := [.str x317.fIp]) (.tmp 80) (.tmp 82) (.const (.bool true)) 21 l316.2.1 (SEnt192.mk x317.fIp true) [.bool true] ⟨by kernel_rfl, by kernel_rfl, by kernel_rfl, fun _ => by kernel_rfl⟩ (by rfl) (by kernel_rfl) (by kernel_rfl) (by decide) (by decide)) fun _ =>
     .done (.inl ((mput l316.1 (fun x => ((x317.fNat == x.fk.fnat) && ((decide (x317.fIp = x.fk.fip)) && true))) (SEnt191.mk (SPlace.mk x317.fNat x317.fIp) true)), (mput l316.2.1 (fun x => (decide (x317.fIp = x.fk))) (SEnt192.mk x317.fIp true)), (wi64 (l316.2.2 + 1))))))
   (.done (.inr (.inr (l316.2.1, (x308.fIp.size : Int))))))
  ([], [], 0))
 (fun (e323 : (List SEnt192) × Int) => Ext.of .ret [(0, .snap [.sl false 5 (List.map tySHost1.c p0.fNetwork.fHosts), .sl false 9 (List.map tySNat.c p0.fNetwork.fNats), .sl false 9 (List.map tySFlight.c p0.fNetwork.fQueue), .int .i64 p0.fNetwork.fNow, .int .i64 p0.fNetwork.fSerial]), (2, .bool false), (3, .int .i64 e323.2), (5, .mp 21)] [] [BT.of 21 tySEnt192 1048833 e323.1 true] (by rfl))
 (fun (e324 : (List SEnt192) × Int) => Ext.of (.exit 0) [(0, .snap [.sl false 5 (List.map tySHost1.c p0.fNetwork.fHosts), .sl false 9 (List.map tySNat.c p0.fNetwork.fNats), .sl false 9 (List.map tySFlight.c p0.fNetwork.fQueue), .int .i64 p0.fNetwork.fNow, .int .i64 p0.fNetwork.fSerial]), (2, .bool false), (3, .int .i64 e324.2), (5, .mp 21)] [] [BT.of 21 tySEnt192 1048833 e324.1 true] (by rfl))
 (fun e323 =>
  .done false)
 (fun e324 =>
  .bind2 1
  (.lp (fun (l329 : (List SEnt192) × Int) => Ext.of .normal [(0, .snap [.sl false 5 (List.map tySHost1.c p0.fNetwork.fHosts), .sl false 9 (List.map tySNat.c p0.fNetwork.fNats), .sl false 9 (List.map tySFlight.c p0.fNetwork.fQueue), .int .i64 p0.fNetwork.fNow, .int .i64 p0.fNetwork.fSerial]), (2, .bool false), (3, .int .i64 e324.2), (5, .mp 21), (88, .sl false 9 (List.map tySNat.c p0.fNetwork.fNats)), (89, .int .i64 (mlen tySNat p0.fNetwork.fNats)), (90, .int .i64 l329.2)] [] [BT.of 21 tySEnt192 1048833 l329.1 true] (by rfl))
   (fun l329 =>
    .br 0 (decide (l329.2 < (mlen tySNat p0.fNetwork.fNats)))
    (.row 14001 tySNat p0.fNetwork.fNats l329.2.toNat (decide (0 ≤ l329.2)) fun x330 =>
     .cnd 15 [119]
     (.call 15002 (s19 x330) [] [] fun r331 =>
      .br 15005 (r331 != 0)
      (.done true)
      (.br 15015 (decide (p0.fNetwork.fNow < x330.fNow))
       (.done true)
       (.br 15022 ((x330.fHost.size : Int) != e324.2)
        (.done true)
        (.opr 15025 (Rule.look (mt := 192) (kt := 9) (et := 4) (z := 1048833) (ty := tySEnt192) (p := (fun x => (decide (x330.fHost = x.fk)))) (kc := [.str x330.fHost]) (.tmp 115) (.tmp 117) 118 21 true l329.1 (.bool false) (.bool (mlook l329.1 (fun x => (decide (x330.fHost = x.fk))) (fun x => x.fv) false)) ⟨by kernel_rfl, by kernel_rfl, by kernel_rfl, fun _ => by kernel_rfl⟩ (by kernel_rfl) (mlook_map _ _ (fun x : SEnt192 => x.fv) false V.bool)) fun _ =>
         .done (mlook l329.1 (fun x => (decide (x330.fHost = x.fk))) (fun x => x.fv) false)))))
     (fun (c332 : Bool) => [.bool c332]) fun c332 =>
     .br 0 c332
     (.done (.inr (.inl e324.2)))
     (.opr 17004 (Rule.put (mt := 192) (kt := 9) (et := 4) (z := 1048833) (ty := tySEnt192) (p := (fun x => (decide (x330.fHost = x.fk)))) (kc := [.str x330.fHost]) (.tmp 120) (.tmp 122) (.const (.bool true)) 21 l329.1 (SEnt192.mk x330.fHost true) [.bool true] ⟨by kernel_rfl, by kernel_rfl, by kernel_rfl, fun _ => by kernel_rfl⟩ (by rfl) (by kernel_rfl) (by kernel_rfl) (by decide) (by decide)) fun _ =>
      .done (.inl ((mput l329.1 (fun x => (decide (x330.fHost = x.fk))) (SEnt192.mk x330.fHost true)), (wi64 (l329.2 + 1))))))
    (.done (.inr (.inr e324.2))))
   (e324.1, 0))
  (fun (e333 : Int) => Ext.lit .ret [(2, .bool false), (3, .int .i64 e333)] [])
  (fun (e334 : Int) => Ext.lit (.exit 2) [(2, .bool false), (3, .int .i64 e334)] [])
  (fun e333 =>
   .done false)
  (fun e334 =>
   .cnd 19 [2]
   (.br 19004 (e334 == 4)
    (.done true)
    (.done (e334 == 16)))
   (fun (c335 : Bool) => [.bool c335]) fun c335 =>
   .done c335))
theorem k101 (p0 : SCarrier) : FnD Tryd.prog GG [0, 2, 3, 4, 5, 7, 8, 10, 26, 27, 28, 29, 77, 88, 89, 90, 91, 119] Tryd.f101 [.snap [.sl false 5 (List.map tySHost1.c p0.fNetwork.fHosts), .sl false 9 (List.map tySNat.c p0.fNetwork.fNats), .sl false 9 (List.map tySFlight.c p0.fNetwork.fQueue), .int .i64 p0.fNetwork.fNow, .int .i64 p0.fNetwork.fSerial]] (g101 p0) (fun r => .bool r) := by unfold FnD; kernel_rfl
noncomputable def s101 (p0 : SCarrier) : EV.Spec Tryd.prog GG (Bool) := .ofFn 101 mixed Tryd.func101 (k101 p0)
noncomputable def g69 (p0 : SCarrier) (p1 : SAddr) : TT (Bool) :=
 .cnd 1 [4]
 (.call 1002 (s94 p1) [] [] fun r339 =>
  .br 1005 (r339 == 0)
  (.br 1010 (decide ((1 : Int) ≤ p1.fPort))
   (.row 1018 tySHost1 p0.fNetwork.fHosts 0 true fun x340 =>
    .done ((p1.fHost.size : Int) == (x340.fIp.size : Int)))
   (.done false))
  (.done false))
 (fun (c341 : Bool) => [.bool c341]) fun c341 =>
 .done c341
theorem k69 (p0 : SCarrier) (p1 : SAddr) : FnD Tryd.prog GG [0, 1, 3, 4] Tryd.f69 [.snap [.sl false 5 (List.map tySHost1.c p0.fNetwork.fHosts), .sl false 9 (List.map tySNat.c p0.fNetwork.fNats), .sl false 9 (List.map tySFlight.c p0.fNetwork.fQueue), .int .i64 p0.fNetwork.fNow, .int .i64 p0.fNetwork.fSerial], .agg [.str p1.fHost, .int .i64 p1.fPort]] (g69 p0 p1) (fun r => .bool r) := by unfold FnD; kernel_rfl
noncomputable def s69 (p0 : SCarrier) (p1 : SAddr) : EV.Spec Tryd.prog GG (Bool) := .ofFn 69 mixed Tryd.func69 (k69 p0 p1)
noncomputable def g102 (p0 : SCarrier) (p1 : SFlight) : TT (Bool) :=
 .cnd 1 [4]
 (.call 1003 (s68 p1.fDue 0 1099511627776) [] [] fun r336 =>
  .br 1005 r336
  (.br 1015 (decide (p1.fSerial < p0.fNetwork.fSerial))
   (.call 1024 (s68 p1.fVia (-1) (wi64 ((mlen tySNat p0.fNetwork.fNats) - 1))) [] [] fun r337 =>
    .br 1027 r337
    (.call 1036 (s68 p1.fWithin (-1) (wi64 ((mlen tySNat p0.fNetwork.fNats) - 1))) [] [] fun r338 =>
     .br 1039 r338
     (.br 1043 (p1.fVia == (-1))
      (.call 1052 (s69 p0 p1.fFrom) [] [] fun r342 =>
       .br 1055 r342
       (.call 1058 (s69 p0 p1.fTo) [] [] fun r343 =>
        .br 1061 r343
        (.done (decide ((p1.fData.size : Int) ≤ 1200)))
        (.done false))
       (.done false))
      (.br 1049 (p1.fWithin == (-1))
       (.call 1052 (s69 p0 p1.fFrom) [] [] fun r344 =>
        .br 1055 r344
        (.call 1058 (s69 p0 p1.fTo) [] [] fun r345 =>
         .br 1061 r345
         (.done (decide ((p1.fData.size : Int) ≤ 1200)))
         (.done false))
        (.done false))
       (.done false)))
     (.done false))
    (.done false))
   (.done false))
  (.done false))
 (fun (c346 : Bool) => [.bool c346]) fun c346 =>
 .done c346
theorem k102 (p0 : SCarrier) (p1 : SFlight) : FnD Tryd.prog GG [0, 1, 3, 4] Tryd.f102 [.snap [.sl false 5 (List.map tySHost1.c p0.fNetwork.fHosts), .sl false 9 (List.map tySNat.c p0.fNetwork.fNats), .sl false 9 (List.map tySFlight.c p0.fNetwork.fQueue), .int .i64 p0.fNetwork.fNow, .int .i64 p0.fNetwork.fSerial], .agg [.int .i64 p1.fDue, .int .i64 p1.fSerial, .int .i64 p1.fVia, .int .i64 p1.fWithin, .str p1.fFrom.fHost, .int .i64 p1.fFrom.fPort, .str p1.fTo.fHost, .int .i64 p1.fTo.fPort, .str p1.fData]] (g102 p0 p1) (fun r => .bool r) := by unfold FnD; kernel_rfl
noncomputable def s102 (p0 : SCarrier) (p1 : SFlight) : EV.Spec Tryd.prog GG (Bool) := .ofFn 102 mixed Tryd.func102 (k102 p0 p1)
noncomputable def g75 (p0 : SCarrier) : TT (Bool) :=
 .cnd 1 [54]
 (.call 1007 (s68 (mlen tySHost1 p0.fNetwork.fHosts) 1 8) [] [] fun r347 =>
  .br 1010 (!r347)
  (.done true)
  (.br 1019 (decide ((4 : Int) < (mlen tySNat p0.fNetwork.fNats)))
   (.done true)
   (.br 1028 (decide ((64 : Int) < (mlen tySFlight p0.fNetwork.fQueue)))
    (.done true)
    (.call 1033 (s68 p0.fNetwork.fNow 0 1099511627776) [] [] fun r348 =>
     .br 1037 (!r348)
     (.done true)
     (.call 1042 (s68 p0.fNetwork.fSerial 0 1099511627776) [] [] fun r349 =>
      .br 1046 (!r349)
      (.done true)
      (.call 1047 (s101 p0) [] [] fun r350 =>
       .done (!r350)))))))
 (fun (c351 : Bool) => [.bool c351]) fun c351 =>
 .br 0 c351
 (.done false)
 (.bind2 1
  (.lp (fun (l356 : Int × Int) => Ext.lit .normal [(0, .snap [.sl false 5 (List.map tySHost1.c p0.fNetwork.fHosts), .sl false 9 (List.map tySNat.c p0.fNetwork.fNats), .sl false 9 (List.map tySFlight.c p0.fNetwork.fQueue), .int .i64 p0.fNetwork.fNow, .int .i64 p0.fNetwork.fSerial]), (2, .bool false), (3, .int .i64 l356.1), (59, .sl false 9 (List.map tySFlight.c p0.fNetwork.fQueue)), (60, .int .i64 (mlen tySFlight p0.fNetwork.fQueue)), (61, .int .i64 l356.2)] [])
   (fun l356 =>
    .br 0 (decide (l356.2 < (mlen tySFlight p0.fNetwork.fQueue)))
    (.row 6001 tySFlight p0.fNetwork.fQueue l356.2.toNat (decide (0 ≤ l356.2)) fun x357 =>
     .cnd 7 [74]
     (.br 7006 (decide (x357.fSerial ≤ l356.1))
      (.done true)
      (.call 7008 (s102 p0 x357) [] [] fun r358 =>
       .done (!r358)))
     (fun (c359 : Bool) => [.bool c359]) fun c359 =>
     .br 0 c359
     (.done (.inr (.inl ())))
     (.done (.inl (x357.fSerial, (wi64 (l356.2 + 1))))))
    (.done (.inr (.inr ()))))
   ((-1), 0))
  (fun (_ : Unit) => Ext.lit .ret [(2, .bool false)] [])
  (fun (_ : Unit) => Ext.lit (.exit 0) [(2, .bool false)] [])
  (fun _ =>
   .done false)
  (fun _ =>
   .done true))
theorem k75 (p0 : SCarrier) : FnD Tryd.prog GG [0, 2, 3, 5, 54, 59, 60, 61, 62, 74] Tryd.f75 [.snap [.sl false 5 (List.map tySHost1.c p0.fNetwork.fHosts), .sl false 9 (List.map tySNat.c p0.fNetwork.fNats), .sl false 9 (List.map tySFlight.c p0.fNetwork.fQueue), .int .i64 p0.fNetwork.fNow, .int .i64 p0.fNetwork.fSerial]] (g75 p0) (fun r => .bool r) := by unfold FnD; kernel_rfl
noncomputable def s75 (p0 : SCarrier) : EV.Spec Tryd.prog GG (Bool) := .ofFn 75 mixed Tryd.func75 (k75 p0)
noncomputable def g43 (p0 : SNetwork) : TT (Int) :=
 .view 2002 (s75 (SCarrier.mk p0)) [] fun r362 =>
 .br 0 (!r362)
 (.done 140)
 (.done 0)
theorem k43 (p0 : SNetwork) : FnD Tryd.prog GG [0, 1, 2, 3, 9] Tryd.f43 [.agg [.sl false 5 (List.map tySHost1.c p0.fHosts), .sl false 9 (List.map tySNat.c p0.fNats), .sl false 9 (List.map tySFlight.c p0.fQueue), .int .i64 p0.fNow, .int .i64 p0.fSerial]] (g43 p0) (fun r => .int .i64 r) := by unfold FnD; kernel_rfl
noncomputable def s43 (p0 : SNetwork) : EV.Spec Tryd.prog GG (Int) := .ofFn 43 mixed Tryd.func43 (k43 p0)
end Go.Proofs.YtdiagiflihpidaaDoor
namespace Go.Proofs.YtdiagiflihpidaaDoor
open Go Go.EV
set_option maxRecDepth 100000
noncomputable def g122 (p0 : Int) : TT (Bool) :=
 .done (p0 != p0)
theorem k122 (p0 : Int) : FnD Tryd.prog GG [0, 2] Tryd.f122 [.int .i64 p0] (g122 p0) (fun r => .bool r) := by unfold FnD; kernel_rfl
noncomputable def s122 (p0 : Int) : EV.Spec Tryd.prog GG (Bool) := .ofFn 122 mixed Tryd.func122 (k122 p0)
noncomputable def g103 (p0 : Int) (p1 : Int) : TT (Int) :=
 .call 1002 (s122 p0) [] [] fun r366 =>
 .call 2002 (s122 p1) [] [] fun r367 =>
 .br 0 r366
 (.br 0 r367
  (.done 0)
  (.done (-1)))
 (.br 0 r367
  (.done 1)
  (.br 0 (decide (p0 < p1))
   (.done (-1))
   (.br 0 (decide (p1 < p0))
    (.done 1)
    (.done 0))))
theorem k103 (p0 : Int) (p1 : Int) : FnD Tryd.prog GG [0, 1, 4, 5, 6, 11, 12, 13, 16, 19] Tryd.f103 [.int .i64 p0, .int .i64 p1] (g103 p0 p1) (fun r => .int .i64 r) := by unfold FnD; kernel_rfl
noncomputable def s103 (p0 : Int) (p1 : Int) : EV.Spec Tryd.prog GG (Int) := .ofFn 103 mixed Tryd.func103 (k103 p0 p1)
noncomputable def g76 (p0 : SCarrier) : TT (Int) :=
 .bind 1
 (.lp (fun (l371 : Int × Int) => Ext.lit .normal [(0, .snap [.sl false 5 (List.map tySHost1.c p0.fNetwork.fHosts), .sl false 9 (List.map tySNat.c p0.fNetwork.fNats), .sl false 9 (List.map tySFlight.c p0.fNetwork.fQueue), .int .i64 p0.fNetwork.fNow, .int .i64 p0.fNetwork.fSerial]), (2, .int .i64 0), (3, .int .i64 l371.1), (10, .sl false 9 (List.map tySFlight.c p0.fNetwork.fQueue)), (11, .int .i64 (mlen tySFlight p0.fNetwork.fQueue)), (12, .int .i64 l371.2)] [])
  (fun l371 =>
   .br 0 (decide (l371.2 < (mlen tySFlight p0.fNetwork.fQueue)))
   (.row 4002 tySFlight p0.fNetwork.fQueue l371.2.toNat (decide (0 ≤ l371.2)) fun x372 =>
    .row 5009 tySFlight p0.fNetwork.fQueue l371.1.toNat (decide (0 ≤ l371.1)) fun x373 =>
    .call 5012 (s103 x372.fDue x373.fDue) [] [] fun r374 =>
    .br 0 (decide (r374 < 0))
    (.done (.inl (l371.2, (wi64 (l371.2 + 1)))))
    (.done (.inl (l371.1, (wi64 (l371.2 + 1))))))
   (.done (.inr l371.1)))
  (0, 0))
 (fun (e375 : Int) => Ext.lit (.exit 0) [(2, .int .i64 0), (3, .int .i64 e375)] [])
 (fun e375 =>
  .done e375)
theorem k76 (p0 : SCarrier) : FnD Tryd.prog GG [0, 2, 3, 4, 5, 10, 11, 12, 13, 29] Tryd.f76 [.snap [.sl false 5 (List.map tySHost1.c p0.fNetwork.fHosts), .sl false 9 (List.map tySNat.c p0.fNetwork.fNats), .sl false 9 (List.map tySFlight.c p0.fNetwork.fQueue), .int .i64 p0.fNetwork.fNow, .int .i64 p0.fNetwork.fSerial]] (g76 p0) (fun r => .int .i64 r) := by unfold FnD; kernel_rfl
noncomputable def s76 (p0 : SCarrier) : EV.Spec Tryd.prog GG (Int) := .ofFn 76 mixed Tryd.func76 (k76 p0)
noncomputable def g91 (p0 : (List SHost1)) : TT Unit := .app 3003 tySHost1 [] p0 48 true (by intros; rfl) (.done ())
theorem k91y : Piece Tryd.prog GG [2] 8 (cloneYes Tryd.f91.body) (Ext.lit .normal [(2, .nilsl)] []) (.done () : TT Unit) (fun _ => Ext.lit .ret [(2, .nilsl)] []) := by unfold Piece; kernel_rfl
theorem k91r (p0 : (List SHost1)) : Piece Tryd.prog GG [0, 2, 5, 6, 7] 8 (cloneRest Tryd.f91.body) (Ext.lit .normal [(0, .sl false 5 (List.map tySHost1.c p0)), (2, .nilsl)] []) (g91 p0) (fun _ => Ext.of .ret [(2, .ref 7 0 ([] ++ p0).length)] [] [BT.of 7 tySHost1 5 ([] ++ p0)] (by rfl)) := by unfold Piece; kernel_rfl
theorem k91 (p0 : (List SHost1)) {r : Unit} (h : (g91 p0).run = some r) : CallC Tryd.prog GG 91 [.sl false 5 (List.map tySHost1.c p0)] (ofL []) (.ref 7 0 p0.length) (ofL [(7, ⟨5, true, List.map tySHost1.c p0⟩)]) :=
 clone_ok (ty := tySHost1) (ops0 := cloneOps0 Tryd.f91.body) (ops1 := cloneOps1 Tryd.f91.body) (yes := cloneYes Tryd.f91.body) (rest := cloneRest Tryd.f91.body) (t := 73) mixed (by decide) Tryd.func91 (by kernel_rfl) (by kernel_rfl) (by kernel_rfl) (by kernel_rfl) (by kernel_rfl) (by kernel_rfl) (by kernel_rfl) (by kernel_rfl) (by kernel_rfl) k91y (k91r p0) (by rfl) h
noncomputable def s91 (p0 : (List SHost1)) : EV.Spec Tryd.prog GG Unit := ⟨91, [.sl false 5 (List.map tySHost1.c p0)], [], (g91 p0).run, fun _ => .ref 7 0 p0.length, fun _ => [(7, ⟨5, true, List.map tySHost1.c p0⟩)], [7], fun _ p hp _ => by
 rw [List.mem_singleton.1 hp]; exact tySHost1.data _, fun _ h => k91 p0 h⟩
noncomputable def g92 (p0 : (List SNat)) : TT Unit := .app 3003 tySNat [] p0 96 true (by intros; rfl) (.done ())
theorem k92y : Piece Tryd.prog GG [2] 8 (cloneYes Tryd.f92.body) (Ext.lit .normal [(2, .nilsl)] []) (.done () : TT Unit) (fun _ => Ext.lit .ret [(2, .nilsl)] []) := by unfold Piece; kernel_rfl
theorem k92r (p0 : (List SNat)) : Piece Tryd.prog GG [0, 2, 5, 6, 7] 8 (cloneRest Tryd.f92.body) (Ext.lit .normal [(0, .sl false 9 (List.map tySNat.c p0)), (2, .nilsl)] []) (g92 p0) (fun _ => Ext.of .ret [(2, .ref 7 0 ([] ++ p0).length)] [] [BT.of 7 tySNat 9 ([] ++ p0)] (by rfl)) := by unfold Piece; kernel_rfl
theorem k92 (p0 : (List SNat)) {r : Unit} (h : (g92 p0).run = some r) : CallC Tryd.prog GG 92 [.sl false 9 (List.map tySNat.c p0)] (ofL []) (.ref 7 0 p0.length) (ofL [(7, ⟨9, true, List.map tySNat.c p0⟩)]) :=
 clone_ok (ty := tySNat) (ops0 := cloneOps0 Tryd.f92.body) (ops1 := cloneOps1 Tryd.f92.body) (yes := cloneYes Tryd.f92.body) (rest := cloneRest Tryd.f92.body) (t := 74) mixed (by decide) Tryd.func92 (by kernel_rfl) (by kernel_rfl) (by kernel_rfl) (by kernel_rfl) (by kernel_rfl) (by kernel_rfl) (by kernel_rfl) (by kernel_rfl) (by kernel_rfl) k92y (k92r p0) (by rfl) h
noncomputable def s92 (p0 : (List SNat)) : EV.Spec Tryd.prog GG Unit := ⟨92, [.sl false 9 (List.map tySNat.c p0)], [], (g92 p0).run, fun _ => .ref 7 0 p0.length, fun _ => [(7, ⟨9, true, List.map tySNat.c p0⟩)], [7], fun _ p hp _ => by
 rw [List.mem_singleton.1 hp]; exact tySNat.data _, fun _ h => k92 p0 h⟩
noncomputable def g93 (p0 : (List SFlight)) : TT Unit := .app 3003 tySFlight [] p0 96 true (by intros; rfl) (.done ())
theorem k93y : Piece Tryd.prog GG [2] 8 (cloneYes Tryd.f93.body) (Ext.lit .normal [(2, .nilsl)] []) (.done () : TT Unit) (fun _ => Ext.lit .ret [(2, .nilsl)] []) := by unfold Piece; kernel_rfl
theorem k93r (p0 : (List SFlight)) : Piece Tryd.prog GG [0, 2, 5, 6, 7] 8 (cloneRest Tryd.f93.body) (Ext.lit .normal [(0, .sl false 9 (List.map tySFlight.c p0)), (2, .nilsl)] []) (g93 p0) (fun _ => Ext.of .ret [(2, .ref 7 0 ([] ++ p0).length)] [] [BT.of 7 tySFlight 9 ([] ++ p0)] (by rfl)) := by unfold Piece; kernel_rfl
theorem k93 (p0 : (List SFlight)) {r : Unit} (h : (g93 p0).run = some r) : CallC Tryd.prog GG 93 [.sl false 9 (List.map tySFlight.c p0)] (ofL []) (.ref 7 0 p0.length) (ofL [(7, ⟨9, true, List.map tySFlight.c p0⟩)]) :=
 clone_ok (ty := tySFlight) (ops0 := cloneOps0 Tryd.f93.body) (ops1 := cloneOps1 Tryd.f93.body) (yes := cloneYes Tryd.f93.body) (rest := cloneRest Tryd.f93.body) (t := 75) mixed (by decide) Tryd.func93 (by kernel_rfl) (by kernel_rfl) (by kernel_rfl) (by kernel_rfl) (by kernel_rfl) (by kernel_rfl) (by kernel_rfl) (by kernel_rfl) (by kernel_rfl) k93y (k93r p0) (by rfl) h
noncomputable def s93 (p0 : (List SFlight)) : EV.Spec Tryd.prog GG Unit := ⟨93, [.sl false 9 (List.map tySFlight.c p0)], [], (g93 p0).run, fun _ => .ref 7 0 p0.length, fun _ => [(7, ⟨9, true, List.map tySFlight.c p0⟩)], [7], fun _ p hp _ => by
 rw [List.mem_singleton.1 hp]; exact tySFlight.data _, fun _ h => k93 p0 h⟩
noncomputable def g67 (p0 : SNetwork) : TT ((Unit) ⊕ (Unit)) :=
 .view 2002 (s75 (SCarrier.mk p0)) [] fun r376 =>
 .br 0 (!r376)
 (.done (.inl ()))
 (.call 4006 (s91 p0.fHosts) [] [(7, 500100)] fun _ =>
  .call 4009 (s92 p0.fNats) [] [(7, 500101)] fun _ =>
  .call 4012 (s93 p0.fQueue) [] [(7, 500102)] fun _ =>
  .done (.inr ()))
theorem k67 (p0 : SNetwork) : FnB Tryd.prog GG [0, 1, 2, 3, 4, 10] Tryd.f67 [.agg [.sl false 5 (List.map tySHost1.c p0.fHosts), .sl false 9 (List.map tySNat.c p0.fNats), .sl false 9 (List.map tySFlight.c p0.fQueue), .int .i64 p0.fNow, .int .i64 p0.fSerial]] (Ext.of .normal (argTs [.agg [.sl false 5 (List.map tySHost1.c p0.fHosts), .sl false 9 (List.map tySNat.c p0.fNats), .sl false 9 (List.map tySFlight.c p0.fQueue), .int .i64 p0.fNow, .int .i64 p0.fSerial]]) [] [] (by rfl)) (g67 p0) (Sum.elim (fun (_ : Unit) => .tup [.nilp, .int .i64 140]) (fun (_ : Unit) => .tup [.ptr 7 0 0, .int .i64 0])) (Sum.elim (fun (_ : Unit) => Ext.of .normal [] [] [] (by rfl)) (fun (_ : Unit) => Ext.of .normal [] [(7, ⟨5, true, [[.ref 500100 0 p0.fHosts.length, .ref 500101 0 p0.fNats.length, .ref 500102 0 p0.fQueue.length, .int .i64 p0.fNow, .int .i64 p0.fSerial]]⟩)] [BT.of 500100 tySHost1 5 p0.fHosts true, BT.of 500101 tySNat 9 p0.fNats true, BT.of 500102 tySFlight 9 p0.fQueue true] (by rfl))) := by unfold FnB; kernel_rfl
noncomputable def s67 (p0 : SNetwork) : EV.Spec Tryd.prog GG ((Unit) ⊕ (Unit)) := .ofFnB 67 [500100, 500101, 500102] mixed Tryd.func67 rfl (fun r => by cases r <;> rfl) (k67 p0)
noncomputable def g47 (p0 : SNetwork) : TT (Int × Int) :=
 .call2 1002 (s67 p0) [] [(7, 500103), (500100, 500104), (500101, 500105), (500102, 500106)] (fun _ =>
  .tt (.done (0, 140)))
 (fun _ =>
  .ff (.br 0 ((p0.fQueue.length : Int) == 0)
  (.done (0, 4))
  (.view 6007 (s76 (SCarrier.mk p0)) [(VwW.of 500104 tySHost1 p0.fHosts), (VwW.of 500105 tySNat p0.fNats), (VwW.of 500106 tySFlight p0.fQueue)] fun r382 =>
   .chk 6008 (decide (0 ≤ r382) && decide (r382 < (p0.fQueue.length : Int))) (.row 6010 tySFlight p0.fQueue (0 + r382.toNat) true fun x383 =>
   .done (x383.fDue, 0)))))
theorem k47 (p0 : SNetwork) : FnD Tryd.prog GG [0, 1, 2, 3, 4, 5, 12, 20] Tryd.f47 [.agg [.sl false 5 (List.map tySHost1.c p0.fHosts), .sl false 9 (List.map tySNat.c p0.fNats), .sl false 9 (List.map tySFlight.c p0.fQueue), .int .i64 p0.fNow, .int .i64 p0.fSerial]] (g47 p0) (fun r => .tup [.int .i64 r.1, .int .i64 r.2]) := by unfold FnD; kernel_rfl
noncomputable def s47 (p0 : SNetwork) : EV.Spec Tryd.prog GG (Int × Int) := .ofFn 47 mixed Tryd.func47 (k47 p0)
noncomputable def g120 (p0 : SHost1) (p1 : SPlace) : TT (Bool) :=
 .done ((p0.fNat == p1.fnat) && ((decide (p0.fIp = p1.fip)) && true))
theorem k120 (p0 : SHost1) (p1 : SPlace) : FnD Tryd.prog GG [0, 1, 2, 3] Tryd.f120 [.agg [.str p0.fIp, .int .i64 p0.fNat, .int .i64 p0.fDelay, .int .i64 p0.fLose, .int .i64 p0.fCount], .snap [.int .i64 p1.fnat, .str p1.fip]] (g120 p0 p1) (fun r => .bool r) := by unfold FnD; kernel_rfl
noncomputable def s120 (p0 : SHost1) (p1 : SPlace) : EV.Spec Tryd.prog GG (Bool) := .ofFn 120 mixed Tryd.func120 (k120 p0 p1)
noncomputable def g119 (p0 : (List SHost1)) (p1 : SPlace) : TT (Int) :=
 .bind2 1
 (.lp (fun (l407 : Int) => Ext.lit .normal [(0, .sl false 5 (List.map tySHost1.c p0)), (1, .fn 120 [] [.snap [.int .i64 p1.fnat, .str p1.fip]]), (4, .int .i64 0), (7, .int .i64 (mlen tySHost1 p0)), (8, .int .i64 l407)] [])
  (fun l407 =>
   .br 0 (decide (l407 < (mlen tySHost1 p0)))
   (.row 4004 tySHost1 p0 l407.toNat (decide (0 ≤ l407)) fun x408 =>
    .call 4006 (s120 x408 p1) [] [] fun r409 =>
    .br 0 r409
    (.done (.inr (.inl l407)))
    (.done (.inl (wi64 (l407 + 1)))))
   (.done (.inr (.inr ()))))
  0)
 (fun (e410 : Int) => Ext.lit .ret [(4, .int .i64 e410)] [])
 (fun (_ : Unit) => Ext.lit (.exit 0) [(4, .int .i64 0)] [])
 (fun e410 =>
  .done e410)
 (fun _ =>
  .done (-1))
theorem k119 (p0 : (List SHost1)) (p1 : SPlace) : FnD Tryd.prog GG [0, 1, 4, 5, 7, 8, 9, 16] Tryd.f119 [.sl false 5 (List.map tySHost1.c p0), .fn 120 [] [.snap [.int .i64 p1.fnat, .str p1.fip]]] (g119 p0 p1) (fun r => .int .i64 r) := by unfold FnD; kernel_rfl
noncomputable def s119 (p0 : (List SHost1)) (p1 : SPlace) : EV.Spec Tryd.prog GG (Int) := .ofFn 119 mixed Tryd.func119 (k119 p0 p1)
noncomputable def g95 (p0 : SCarrier) (p1 : SPlace) : TT (Int) :=
 .view 1007 (s119 p0.fNetwork.fHosts p1) [] fun r412 =>
 .done r412
theorem k95 (p0 : SCarrier) (p1 : SPlace) : FnD Tryd.prog GG [0, 1, 3, 4] Tryd.f95 [.snap [.sl false 5 (List.map tySHost1.c p0.fNetwork.fHosts), .sl false 9 (List.map tySNat.c p0.fNetwork.fNats), .sl false 9 (List.map tySFlight.c p0.fNetwork.fQueue), .int .i64 p0.fNetwork.fNow, .int .i64 p0.fNetwork.fSerial], .agg [.int .i64 p1.fnat, .str p1.fip]] (g95 p0 p1) (fun r => .int .i64 r) := by unfold FnD; kernel_rfl
noncomputable def s95 (p0 : SCarrier) (p1 : SPlace) : EV.Spec Tryd.prog GG (Int) := .ofFn 95 mixed Tryd.func95 (k95 p0 p1)
noncomputable def g70 (p0 : Int) (p1 : Int) (p2 : SAddr) (p3 : ByteArray) (p4 : Int) (p5 : Int) (p6 : (List SHost1)) (p7 : (List SNat)) (p8 : (List SFlight)) : TT ((List SFlight) × Int × (List SNat) × (List SHost1)) :=
 .chk 1007 (decide (0 ≤ p0) && decide (p0 < (p6.length : Int))) (.row 2004 tySHost1 p6 (0 + p0.toNat) true fun x394 =>
 .row 2008 tySHost1 p6 (0 + p0.toNat) true fun x395 =>
 .re 2008 (ReW.put 1000001 5 tySHost1 p6 (0 + p0.toNat) (SHost1.mk x395.fIp x395.fNat x395.fDelay x395.fLose (wi64 (x394.fCount + 1)))) (.gh 5 (.len 1000001 ((p6.set (0 + p0.toNat) (SHost1.mk x395.fIp x395.fNat x395.fDelay x395.fLose (wi64 (x394.fCount + 1)))).length) [p6.length] (by simp)) (.cnd 3 [45]
 (.row 3004 tySHost1 (p6.set (0 + p0.toNat) (SHost1.mk x395.fIp x395.fNat x395.fDelay x395.fLose (wi64 (x394.fCount + 1)))) (0 + p0.toNat) true fun x396 =>
  .br 3007 (decide ((0 : Int) < x396.fLose))
  (.row 3010 tySHost1 (p6.set (0 + p0.toNat) (SHost1.mk x395.fIp x395.fNat x395.fDelay x395.fLose (wi64 (x394.fCount + 1)))) (0 + p0.toNat) true fun x397 =>
   .row 3014 tySHost1 (p6.set (0 + p0.toNat) (SHost1.mk x395.fIp x395.fNat x395.fDelay x395.fLose (wi64 (x394.fCount + 1)))) (0 + p0.toNat) true fun x398 =>
   .chk 3015 (!(x398.fLose == 0)) (.done ((Int.tmod x397.fCount x398.fLose) == 0)))
  (.done false))
 (fun (c399 : Bool) => [.bool c399]) fun c399 =>
 .br 0 c399
 (.gh 0 (.ren 1000003 660000) (.done (p8, p5, p7, (p6.set (0 + p0.toNat) (SHost1.mk x395.fIp x395.fNat x395.fDelay x395.fLose (wi64 (x394.fCount + 1)))))))
 (.row 4009 tySHost1 (p6.set (0 + p0.toNat) (SHost1.mk x395.fIp x395.fNat x395.fDelay x395.fLose (wi64 (x394.fCount + 1)))) (0 + p0.toNat) true fun x400 =>
  .row 4019 tySHost1 (p6.set (0 + p0.toNat) (SHost1.mk x395.fIp x395.fNat x395.fDelay x395.fLose (wi64 (x394.fCount + 1)))) (0 + p0.toNat) true fun x401 =>
  .bind2 0
  (.row 8004 tySHost1 (p6.set (0 + p0.toNat) (SHost1.mk x395.fIp x395.fNat x395.fDelay x395.fLose (wi64 (x394.fCount + 1)))) (0 + p0.toNat) true fun x402 =>
   .br 0 (decide (x402.fNat < 0))
   (.done (.inl ((-1), (-1), x401.fIp, p1, p7)))
   (.row 9005 tySHost1 (p6.set (0 + p0.toNat) (SHost1.mk x395.fIp x395.fNat x395.fDelay x395.fLose (wi64 (x394.fCount + 1)))) (0 + p0.toNat) true fun x403 =>
    .view 9009 (s95 (SCarrier.mk (SNetwork.mk (p6.set (0 + p0.toNat) (SHost1.mk x395.fIp x395.fNat x395.fDelay x395.fLose (wi64 (x394.fCount + 1)))) p7 p8 p4 p5)) (SPlace.mk x403.fNat p2.fHost)) [(VwW.of 1000001 tySHost1 (p6.set (0 + p0.toNat) (SHost1.mk x395.fIp x395.fNat x395.fDelay x395.fLose (wi64 (x394.fCount + 1))))), (VwW.of 1000002 tySNat p7), (VwW.of 1000003 tySFlight p8)] fun r404 =>
    .br 0 (decide ((0 : Int) ≤ r404))
    (.row 10004 tySHost1 (p6.set (0 + p0.toNat) (SHost1.mk x395.fIp x395.fNat x395.fDelay x395.fLose (wi64 (x394.fCount + 1)))) (0 + p0.toNat) true fun x405 =>
     .done (.inl ((-1), x405.fNat, x401.fIp, p1, p7)))
    (.row 5009 tySHost1 (p6.set (0 + p0.toNat) (SHost1.mk x395.fIp x395.fNat x395.fDelay x395.fLose (wi64 (x394.fCount + 1)))) (0 + p0.toNat) true fun x406 =>
     .chk 5010 (decide (0 ≤ x406.fNat) && decide (x406.fNat < (p7.length : Int))) (.row 5011 tySNat p7 (0 + x406.fNat.toNat) true fun x407 =>
     .call 5020 (s25 x407 p4 (SAddr.mk x401.fIp p1) p2) [] [] fun r408 =>
     .br 0 (r408.2.2 != 0)
     (.done (.inr ()))
     (.row 7009 tySHost1 (p6.set (0 + p0.toNat) (SHost1.mk x395.fIp x395.fNat x395.fDelay x395.fLose (wi64 (x394.fCount + 1)))) (0 + p0.toNat) true fun x409 =>
      .row 7014 tySHost1 (p6.set (0 + p0.toNat) (SHost1.mk x395.fIp x395.fNat x395.fDelay x395.fLose (wi64 (x394.fCount + 1)))) (0 + p0.toNat) true fun x410 =>
      .chk 7016 (decide (0 ≤ x409.fNat) && decide (x409.fNat < (p7.length : Int))) (.row 7017 tySNat p7 (0 + x409.fNat.toNat) true fun x411 =>
      .re 7017 (ReW.put 1000002 9 tySNat p7 (0 + x409.fNat.toNat) r408.1) (.gh 0 (.len 1000002 ((p7.set (0 + x409.fNat.toNat) r408.1).length) [p7.length] (by simp)) (.done (.inl (x410.fNat, (-1), r408.2.1.fHost, r408.2.1.fPort, (p7.set (0 + x409.fNat.toNat) r408.1)))))))))))
  (fun (e412 : Int × Int × ByteArray × Int × (List SNat)) => Ext.of .normal [(0, .ptr 1000000 0 0), (11, .ptr 11 0 0)] [(11, ⟨9, true, [[.int .i64 (wi64 (p4 + x400.fDelay)), .int .i64 p5, .int .i64 e412.1, .int .i64 e412.2.1, .str e412.2.2.1, .int .i64 e412.2.2.2.1, .str p2.fHost, .int .i64 p2.fPort, .str p3]]⟩), (1000000, ⟨5, true, [[.ref 1000001 0 ((p6.set (0 + p0.toNat) (SHost1.mk x395.fIp x395.fNat x395.fDelay x395.fLose (wi64 (x394.fCount + 1)))).length), .ref 1000002 0 e412.2.2.2.2.length, .ref 1000003 0 p8.length, .int .i64 p4, .int .i64 p5]]⟩)] [BT.of 1000001 tySHost1 5 (p6.set (0 + p0.toNat) (SHost1.mk x395.fIp x395.fNat x395.fDelay x395.fLose (wi64 (x394.fCount + 1)))) true, BT.of 1000002 tySNat 9 e412.2.2.2.2 true, BT.of 1000003 tySFlight 9 p8 true] (by rfl))
  (fun (e413 : Unit) => Ext.of .ret [(0, .ptr 1000000 0 0), (11, .ptr 11 0 0)] [(11, ⟨9, true, [[.int .i64 (wi64 (p4 + x400.fDelay)), .int .i64 p5, .int .i64 (-1), .int .i64 (-1), .str x401.fIp, .int .i64 p1, .str p2.fHost, .int .i64 p2.fPort, .str p3]]⟩), (1000000, ⟨5, true, [[.ref 1000001 0 ((p6.set (0 + p0.toNat) (SHost1.mk x395.fIp x395.fNat x395.fDelay x395.fLose (wi64 (x394.fCount + 1)))).length), .ref 1000002 0 p7.length, .ref 1000003 0 p8.length, .int .i64 p4, .int .i64 p5]]⟩)] [BT.of 1000001 tySHost1 5 (p6.set (0 + p0.toNat) (SHost1.mk x395.fIp x395.fNat x395.fDelay x395.fLose (wi64 (x394.fCount + 1)))) true, BT.of 1000002 tySNat 9 p7 true, BT.of 1000003 tySFlight 9 p8 true] (by rfl))
  (fun e412 =>
   .cnd 11 [147]
   (.br 11009 ((p8.length : Int) == 64)
    (.done true)
    (.done (decide ((1099511627776 : Int) < (wi64 (p4 + x400.fDelay))))))
   (fun (c414 : Bool) => [.bool c414]) fun c414 =>
   .br 0 c414
   (.gh 0 (.ren 1000003 660000) (.done (p8, p5, e412.2.2.2.2, (p6.set (0 + p0.toNat) (SHost1.mk x395.fIp x395.fNat x395.fDelay x395.fLose (wi64 (x394.fCount + 1)))))))
   (.app 12009 tySFlight p8 [(SFlight.mk (wi64 (p4 + x400.fDelay)) p5 e412.1 e412.2.1 (SAddr.mk e412.2.2.1 e412.2.2.2.1) p2 p3)] 96 false (by intro h; cases h) (.gh 0 (.ren 156 660000) (.done ((p8 ++ [(SFlight.mk (wi64 (p4 + x400.fDelay)) p5 e412.1 e412.2.1 (SAddr.mk e412.2.2.1 e412.2.2.2.1) p2 p3)]), (wi64 (p5 + 1)), e412.2.2.2.2, (p6.set (0 + p0.toNat) (SHost1.mk x395.fIp x395.fNat x395.fDelay x395.fLose (wi64 (x394.fCount + 1)))))))))
  (fun e413 =>
   .gh 0 (.ren 1000003 660000) (.done (p8, p5, p7, (p6.set (0 + p0.toNat) (SHost1.mk x395.fIp x395.fNat x395.fDelay x395.fLose (wi64 (x394.fCount + 1)))))))))))
theorem k70 (p0 : Int) (p1 : Int) (p2 : SAddr) (p3 : ByteArray) (p4 : Int) (p5 : Int) (p6 : (List SHost1)) (p7 : (List SNat)) (p8 : (List SFlight)) : FnB Tryd.prog GG [0, 1, 2, 3, 4, 8, 10, 11, 12, 13, 14, 45, 95, 114, 120, 147] Tryd.f70 [.ptr 1000000 0 0, .int .i64 p0, .int .i64 p1, .agg [.str p2.fHost, .int .i64 p2.fPort], .str p3] (Ext.of .normal (argTs [.ptr 1000000 0 0, .int .i64 p0, .int .i64 p1, .agg [.str p2.fHost, .int .i64 p2.fPort], .str p3]) [(1000000, ⟨5, true, [[.ref 1000001 0 p6.length, .ref 1000002 0 p7.length, .ref 1000003 0 p8.length, .int .i64 p4, .int .i64 p5]]⟩)] [BT.of 1000001 tySHost1 5 p6 true, BT.of 1000002 tySNat 9 p7 true, BT.of 1000003 tySFlight 9 p8 true] (by rfl)) (g70 p0 p1 p2 p3 p4 p5 p6 p7 p8) (fun (_ : (List SFlight) × Int × (List SNat) × (List SHost1)) => .tup []) (fun (r : (List SFlight) × Int × (List SNat) × (List SHost1)) => Ext.of .normal [] [(1000000, ⟨5, true, [[.ref 1000001 0 r.2.2.2.length, .ref 1000002 0 r.2.2.1.length, .ref 660000 0 r.1.length, .int .i64 p4, .int .i64 r.2.1]]⟩)] [BT.of 660000 tySFlight 9 r.1 true, BT.of 1000001 tySHost1 5 r.2.2.2 true, BT.of 1000002 tySNat 9 r.2.2.1 true] (by rfl)) := by unfold FnB; kernel_rfl
noncomputable def s70 (p0 : Int) (p1 : Int) (p2 : SAddr) (p3 : ByteArray) (p4 : Int) (p5 : Int) (p6 : (List SHost1)) (p7 : (List SNat)) (p8 : (List SFlight)) : EV.Spec Tryd.prog GG ((List SFlight) × Int × (List SNat) × (List SHost1)) := .ofFnB 70 [660000, 1000001, 1000002] mixed Tryd.func70 rfl (fun _ => rfl) (k70 p0 p1 p2 p3 p4 p5 p6 p7 p8)
noncomputable def g40 (p0 : SNetwork) (p1 : Int) (p2 : Int) (p3 : Int) (p4 : SAddr) (p5 : ByteArray) : TT (SNetwork × Int) :=
 .call2 1002 (s67 p0) [] [(7, 500107), (500100, 500108), (500101, 500109), (500102, 500110)] (fun _ =>
  .tt (.done ((SNetwork.mk [] [] [] 0 0), 140)))
 (fun _ =>
  .ff (.cnd 4 [26]
  (.call 4004 (s68 p1 p0.fNow 1099511627776) [] [] fun r386 =>
   .br 4007 (!r386)
   (.done true)
   (.call 4012 (s68 p2 0 (wi64 ((mlen tySHost1 p0.fHosts) - 1))) [] [] fun r387 =>
    .br 4016 (!r387)
    (.done true)
    (.call 4017 (s68 p3 1 65535) [] [] fun r388 =>
     .br 4021 (!r388)
     (.done true)
     (.view 4023 (s69 (SCarrier.mk p0) p4) [(VwW.of 500108 tySHost1 p0.fHosts), (VwW.of 500109 tySNat p0.fNats), (VwW.of 500110 tySFlight p0.fQueue)] fun r389 =>
      .done (!r389)))))
  (fun (c390 : Bool) => [.bool c390]) fun c390 =>
  .br 0 c390
  (.done ((SNetwork.mk [] [] [] 0 0), 2))
  (.br 0 (decide ((1200 : Int) < (p5.size : Int)))
   (.done ((SNetwork.mk [] [] [] 0 0), 3))
   (.cnd 8 [58]
    (.br 8005 (p0.fSerial == 1099511627776)
     (.done true)
     (.row 8008 tySHost1 p0.fHosts p2.toNat (decide (0 ≤ p2)) fun x391 =>
      .done (x391.fCount == 1099511627776)))
    (fun (c392 : Bool) => [.bool c392]) fun c392 =>
    .br 0 c392
    (.done ((SNetwork.mk [] [] [] 0 0), 6))
    (.call 11006 (s70 p2 p3 (SAddr.mk p4.fHost p4.fPort) p5 p1 p0.fSerial p0.fHosts p0.fNats p0.fQueue) [(1000000, 500107), (1000001, 500108), (1000002, 500109), (1000003, 500110)] [(660000, 500111)] fun r415 =>
     .gh 0 (.share (VwW.of 500108 tySHost1 r415.2.2.2) 1) (.gh 0 (.share (VwW.of 500109 tySNat r415.2.2.1) 1) (.gh 0 (.share (VwW.of 500111 tySFlight r415.1) 1) (.done ((SNetwork.mk r415.2.2.2 r415.2.2.1 r415.1 p1 r415.2.1), 0)))))))))
theorem k40 (p0 : SNetwork) (p1 : Int) (p2 : Int) (p3 : Int) (p4 : SAddr) (p5 : ByteArray) : FnD Tryd.prog GG [0, 1, 2, 3, 4, 5, 6, 10, 12, 13, 14, 15, 21, 26, 53, 58] Tryd.f40 [.agg [.sl false 5 (List.map tySHost1.c p0.fHosts), .sl false 9 (List.map tySNat.c p0.fNats), .sl false 9 (List.map tySFlight.c p0.fQueue), .int .i64 p0.fNow, .int .i64 p0.fSerial], .int .i64 p1, .int .i64 p2, .int .i64 p3, .agg [.str p4.fHost, .int .i64 p4.fPort], .str p5] (g40 p0 p1 p2 p3 p4 p5) (fun r => .tup [.agg [.sl false 5 (List.map tySHost1.c r.1.fHosts), .sl false 9 (List.map tySNat.c r.1.fNats), .sl false 9 (List.map tySFlight.c r.1.fQueue), .int .i64 r.1.fNow, .int .i64 r.1.fSerial], .int .i64 r.2]) := by unfold FnD; kernel_rfl
noncomputable def s40 (p0 : SNetwork) (p1 : Int) (p2 : Int) (p3 : Int) (p4 : SAddr) (p5 : ByteArray) : EV.Spec Tryd.prog GG (SNetwork × Int) := .ofFn 40 mixed Tryd.func40 (k40 p0 p1 p2 p3 p4 p5)
end Go.Proofs.YtdiagiflihpidaaDoor
namespace Go.Proofs.YtdiagiflihpidaaDoor
open Go Go.EV
set_option maxRecDepth 100000
noncomputable def g66 (p0 : SNetwork) (p1 : Int) (p2 : ByteArray) : TT (Int) :=
 .bind2 1
 (.lp (fun (l420 : Int) => Ext.lit .normal [(1, .int .i64 p1), (2, .str p2), (3, .ptr 3 0 0), (6, .int .i64 0), (7, .int .i64 l420)] [(3, ⟨5, true, [[.sl false 5 (List.map tySHost1.c p0.fHosts), .sl false 9 (List.map tySNat.c p0.fNats), .sl false 9 (List.map tySFlight.c p0.fQueue), .int .i64 p0.fNow, .int .i64 p0.fSerial]]⟩)])
  (fun l420 =>
   .br 0 (decide (l420 < (mlen tySHost1 p0.fHosts)))
   (.cnd 4 [32]
    (.row 4004 tySHost1 p0.fHosts l420.toNat (decide (0 ≤ l420)) fun x421 =>
     .br 4010 (x421.fNat == p1)
     (.row 4013 tySHost1 p0.fHosts l420.toNat (decide (0 ≤ l420)) fun x422 =>
      .done (decide (x422.fIp = p2)))
     (.done false))
    (fun (c423 : Bool) => [.bool c423]) fun c423 =>
    .br 0 c423
    (.done (.inr (.inl l420)))
    (.done (.inl (wi64 (l420 + 1)))))
   (.done (.inr (.inr ()))))
  0)
 (fun (e424 : Int) => Ext.lit .ret [(6, .int .i64 e424)] [])
 (fun (_ : Unit) => Ext.lit (.exit 0) [(6, .int .i64 0)] [])
 (fun e424 =>
  .done e424)
 (fun _ =>
  .done (-1))
theorem k66 (p0 : SNetwork) (p1 : Int) (p2 : ByteArray) : FnD Tryd.prog GG [0, 1, 2, 3, 6, 7, 12, 32] Tryd.f66 [.agg [.sl false 5 (List.map tySHost1.c p0.fHosts), .sl false 9 (List.map tySNat.c p0.fNats), .sl false 9 (List.map tySFlight.c p0.fQueue), .int .i64 p0.fNow, .int .i64 p0.fSerial], .int .i64 p1, .str p2] (g66 p0 p1 p2) (fun r => .int .i64 r) := by unfold FnD; kernel_rfl
noncomputable def s66 (p0 : SNetwork) (p1 : Int) (p2 : ByteArray) : EV.Spec Tryd.prog GG (Int) := .ofFn 66 mixed Tryd.func66 (k66 p0 p1 p2)
end Go.Proofs.YtdiagiflihpidaaDoor
namespace Go.Proofs.YtdiagiflihpidaaDoor
open Go Go.EV
set_option maxRecDepth 100000
structure SDelivery where
 fHost : Int
 fFrom : SAddr
 fTo : SAddr
 fData : ByteArray
structure SMove where
 fWhat : Int
 fFrom : Int
 fTo : Int
 fAfter : Int
structure SDraft where
 fMapping : Int
 fFilter : Int
 fPorts : Int
 fTimeout : Int
 fHairpin : Bool
 fMoves : (List SMove)
structure SPlace1 where
 fNat : Int
 fIp : Int
 fDelay : Int
 fLose : Int
structure SSending where
 fHost : Int
 fPort : Int
 fTo : Int
 fAfter : Int
 fStep : Bool
structure SDraft1 where
 fNats : (List SDraft)
 fHosts : (List SPlace1)
 fSent : (List SSending)
def tySDelivery : Ty SDelivery := ⟨fun x => [.int .i64 x.fHost, .str x.fFrom.fHost, .int .i64 x.fFrom.fPort, .str x.fTo.fHost, .int .i64 x.fTo.fPort, .str x.fData], fun x => [.int .i64 x.fHost, .str x.fFrom.fHost, .int .i64 x.fFrom.fPort, .str x.fTo.fHost, .int .i64 x.fTo.fPort, .str x.fData], fun _ => rfl, fun _ => rfl, fun _ _ => rfl, fun _ => rfl⟩
def tySMove : Ty SMove := ⟨fun x => [.int .u8 x.fWhat, .int .u8 x.fFrom, .int .u8 x.fTo, .int .u16 x.fAfter], fun x => [.int .u8 x.fWhat, .int .u8 x.fFrom, .int .u8 x.fTo, .int .u16 x.fAfter], fun _ => rfl, fun _ => rfl, fun _ _ => rfl, fun _ => rfl⟩
def tySDraft : Ty SDraft := ⟨fun x => [.int .u8 x.fMapping, .int .u8 x.fFilter, .int .u8 x.fPorts, .int .u16 x.fTimeout, .bool x.fHairpin, .sl false 4 (List.map tySMove.c x.fMoves)], fun x => [.int .u8 x.fMapping, .int .u8 x.fFilter, .int .u8 x.fPorts, .int .u16 x.fTimeout, .bool x.fHairpin, .sl false 4 (List.map tySMove.c x.fMoves)], fun _ => rfl, fun _ => rfl, fun _ _ => rfl, fun _ => rfl⟩
def tySPlace1 : Ty SPlace1 := ⟨fun x => [.int .u8 x.fNat, .int .u8 x.fIp, .int .u8 x.fDelay, .int .u8 x.fLose], fun x => [.int .u8 x.fNat, .int .u8 x.fIp, .int .u8 x.fDelay, .int .u8 x.fLose], fun _ => rfl, fun _ => rfl, fun _ _ => rfl, fun _ => rfl⟩
def tySSending : Ty SSending := ⟨fun x => [.int .u8 x.fHost, .int .u8 x.fPort, .int .u8 x.fTo, .int .u16 x.fAfter, .bool x.fStep], fun x => [.int .u8 x.fHost, .int .u8 x.fPort, .int .u8 x.fTo, .int .u16 x.fAfter, .bool x.fStep], fun _ => rfl, fun _ => rfl, fun _ _ => rfl, fun _ => rfl⟩
noncomputable def g23 (p0 : Int) : TT (SAddr) :=
 .done (SAddr.mk (strOfNums [10, 0, 0, (wu8 ((1 : Int) + (Int.tmod p0 3)))]) (wi64 ((5000 : Int) + (wi64 (Int.tmod (wu8 (Int.tdiv p0 3)) 5)))))
theorem k23 (p0 : Int) : FnD Tryd.prog GG [0, 2] Tryd.f23 [.int .u8 p0] (g23 p0) (fun r => .agg [.str r.fHost, .int .i64 r.fPort]) := by unfold FnD; kernel_rfl
noncomputable def s23 (p0 : Int) : EV.Spec Tryd.prog GG (SAddr) := .ofFn 23 mixed Tryd.func23 (k23 p0)
noncomputable def g24 (p0 : Int) : TT (SAddr) :=
 .done (SAddr.mk (strOfNums [198, 51, 100, (wu8 ((1 : Int) + (Int.tmod p0 3)))]) (wi64 ((80 : Int) + (wi64 (Int.tmod (wu8 (Int.tdiv p0 3)) 3)))))
theorem k24 (p0 : Int) : FnD Tryd.prog GG [0, 2] Tryd.f24 [.int .u8 p0] (g24 p0) (fun r => .agg [.str r.fHost, .int .i64 r.fPort]) := by unfold FnD; kernel_rfl
noncomputable def s24 (p0 : Int) : EV.Spec Tryd.prog GG (SAddr) := .ofFn 24 mixed Tryd.func24 (k24 p0)
noncomputable def g45 (p0 : (List SDelivery)) (p1 : (List SDelivery)) : TT (Bool) :=
 .br 0 ((mlen tySDelivery p0) != (mlen tySDelivery p1))
 (.done false)
 (.bind2 1
  (.lp (fun (l580 : Int) => Ext.lit .normal [(0, .sl false 6 (List.map tySDelivery.c p0)), (1, .sl false 6 (List.map tySDelivery.c p1)), (4, .bool false), (12, .int .i64 (mlen tySDelivery p0)), (13, .int .i64 l580)] [])
   (fun l580 =>
    .br 0 (decide (l580 < (mlen tySDelivery p0)))
    (.row 6003 tySDelivery p0 l580.toNat (decide (0 ≤ l580)) fun x581 =>
     .row 6007 tySDelivery p1 l580.toNat (decide (0 ≤ l580)) fun x582 =>
     .br 0 (!((x581.fHost == x582.fHost) && ((decide (x581.fFrom.fHost = x582.fFrom.fHost)) && ((x581.fFrom.fPort == x582.fFrom.fPort) && ((decide (x581.fTo.fHost = x582.fTo.fHost)) && ((x581.fTo.fPort == x582.fTo.fPort) && ((decide (x581.fData = x582.fData)) && true)))))))
     (.done (.inr (.inl ())))
     (.done (.inl (wi64 (l580 + 1)))))
    (.done (.inr (.inr ()))))
   0)
  (fun (_ : Unit) => Ext.lit .ret [(4, .bool false)] [])
  (fun (_ : Unit) => Ext.lit (.exit 0) [(4, .bool false)] [])
  (fun _ =>
   .done false)
  (fun _ =>
   .done true))
theorem k45 (p0 : (List SDelivery)) (p1 : (List SDelivery)) : FnD Tryd.prog GG [0, 1, 4, 5, 10, 12, 13, 14, 24] Tryd.f45 [.sl false 6 (List.map tySDelivery.c p0), .sl false 6 (List.map tySDelivery.c p1)] (g45 p0 p1) (fun r => .bool r) := by unfold FnD; kernel_rfl
noncomputable def s45 (p0 : (List SDelivery)) (p1 : (List SDelivery)) : EV.Spec Tryd.prog GG (Bool) := .ofFn 45 mixed Tryd.func45 (k45 p0 p1)
noncomputable def g49 (p0 : Int) (p1 : Int) (p2 : Int) (p3 : Int) (p4 : Int) : TT (SAddr) :=
 .done (SAddr.mk (strOfNums [p0, p1, p2, p3]) p4)
theorem k49 (p0 : Int) (p1 : Int) (p2 : Int) (p3 : Int) (p4 : Int) : FnD Tryd.prog GG [0, 1, 2, 3, 4, 10] Tryd.f49 [.int .u8 p0, .int .u8 p1, .int .u8 p2, .int .u8 p3, .int .i64 p4] (g49 p0 p1 p2 p3 p4) (fun r => .agg [.str r.fHost, .int .i64 r.fPort]) := by unfold FnD; kernel_rfl
noncomputable def s49 (p0 : Int) (p1 : Int) (p2 : Int) (p3 : Int) (p4 : Int) : EV.Spec Tryd.prog GG (SAddr) := .ofFn 49 mixed Tryd.func49 (k49 p0 p1 p2 p3 p4)
noncomputable def g50  : TT (SNetwork) :=
 .call 2001 (s49 198 51 100 1 0) [] [] fun r585 =>
 .call 2004 (s49 10 0 0 1 0) [] [] fun r586 =>
 .call 2007 (s49 10 0 0 2 0) [] [] fun r587 =>
 .gh 0 (.share (VwW.of 14 tySHost1 [(SHost1.mk r585.fHost (-1) 10 0 0), (SHost1.mk r586.fHost 0 20 0 0), (SHost1.mk r587.fHost 0 5 2 0)]) 0) (.gh 0 (.tell 16 (List.map tySNat.c [(SNat.mk 1 3 1000 true (bs [192, 0, 2, 9]) 5000 5001 0 [])])) (.gh 0 (.share (VwW.of 16 tySNat [(SNat.mk 1 3 1000 true (bs [192, 0, 2, 9]) 5000 5001 0 [])]) 0) (.done (SNetwork.mk [(SHost1.mk r585.fHost (-1) 10 0 0), (SHost1.mk r586.fHost 0 20 0 0), (SHost1.mk r587.fHost 0 5 2 0)] [(SNat.mk 1 3 1000 true (bs [192, 0, 2, 9]) 5000 5001 0 [])] [] 0 0))))
theorem k50  : FnD Tryd.prog GG [0, 1] Tryd.f50 [] (g50) (fun r => .agg [.sl false 5 (List.map tySHost1.c r.fHosts), .sl false 9 (List.map tySNat.c r.fNats), .sl false 9 (List.map tySFlight.c r.fQueue), .int .i64 r.fNow, .int .i64 r.fSerial]) := by unfold FnD; kernel_rfl
noncomputable def s50  : EV.Spec Tryd.prog GG (SNetwork) := .ofFn 50 mixed Tryd.func50 (k50)
noncomputable def g63 (p0 : SDraft) : TT (SNat) :=
 .done (SNat.mk (wi64 ((1 : Int) + (wi64 (Int.tmod p0.fMapping 3)))) (wi64 ((1 : Int) + (wi64 (Int.tmod p0.fFilter 3)))) (wi64 ((1 : Int) + (wi64 (Int.tmod p0.fTimeout 4000)))) p0.fHairpin (bs [192, 0, 2, 9]) 5000 (wi64 ((5000 : Int) + (wi64 (Int.tmod p0.fPorts 8)))) 0 [])
theorem k63 (p0 : SDraft) : FnD Tryd.prog GG [0, 1, 2] Tryd.f63 [.agg [.int .u8 p0.fMapping, .int .u8 p0.fFilter, .int .u8 p0.fPorts, .int .u16 p0.fTimeout, .bool p0.fHairpin, .sl false 4 (List.map tySMove.c p0.fMoves)]] (g63 p0) (fun r => .agg [.int .i64 r.fMapping, .int .i64 r.fFilter, .int .i64 r.fTimeout, .bool r.fHairpin, .str r.fHost, .int .i64 r.fLow, .int .i64 r.fHigh, .int .i64 r.fNow, .sl false 7 (List.map tySBinding.c r.fTable)]) := by unfold FnD; kernel_rfl
noncomputable def s63 (p0 : SDraft) : EV.Spec Tryd.prog GG (SNat) := .ofFn 63 mixed Tryd.func63 (k63 p0)
noncomputable def g39 (p0 : SDraft1) : TT (SNetwork) :=
 .gh 1 (.virtC 600113 3 1 9) (.bind 0
 (.lp (fun (l592 : (List SNat) × Int) => Ext.of .normal [(1, .ptr 1 0 0), (2, .ptr 2 0 0), (3, .ptr 3 0 0), (4, .int .i64 l592.2)] [(1, ⟨3, true, [[.sl false 6 (List.map tySDraft.c p0.fNats), .sl false 4 (List.map tySPlace1.c p0.fHosts), .sl false 5 (List.map tySSending.c p0.fSent)]]⟩), (2, ⟨5, true, [[.nilsl, .nilsl, .nilsl, .int .i64 0, .int .i64 0]]⟩), (3, ⟨5, true, [[.nilsl, .ref 600113 0 l592.1.length, .nilsl, .int .i64 0, .int .i64 0]]⟩)] [BT.of 600113 tySNat 9 l592.1 true] (by rfl))
  (fun l592 =>
   .cnd 3 [17]
   (.br 3007 (decide (l592.2 < (mlen tySDraft p0.fNats)))
    (.done (decide (l592.2 < 2)))
    (.done false))
   (fun (c593 : Bool) => [.bool c593]) fun c593 =>
   .br 0 c593
   (.row 5004 tySDraft p0.fNats l592.2.toNat (decide (0 ≤ l592.2)) fun x594 =>
    .call 5006 (s63 x594) [] [] fun r595 =>
    .app 7005 tySNat l592.1 [(SNat.mk r595.fMapping r595.fFilter r595.fTimeout r595.fHairpin (strOfNums [192, 0, 2, (wu8 ((9 : Int) + (wu8 l592.2)))]) r595.fLow r595.fHigh r595.fNow r595.fTable)] 96 false (by intro h; cases h) (.gh 0 (.drop [600113]) (.gh 0 (.ren 36 600113) (.done (.inl ((l592.1 ++ [(SNat.mk r595.fMapping r595.fFilter r595.fTimeout r595.fHairpin (strOfNums [192, 0, 2, (wu8 ((9 : Int) + (wu8 l592.2)))]) r595.fLow r595.fHigh r595.fNow r595.fTable)]), (wi64 (l592.2 + 1))))))))
   (.done (.inr l592.1)))
  ([], 0))
 (fun (e596 : (List SNat)) => Ext.of (.exit 0) [(1, .ptr 1 0 0), (2, .ptr 2 0 0), (3, .ptr 3 0 0)] [(1, ⟨3, true, [[.sl false 6 (List.map tySDraft.c p0.fNats), .sl false 4 (List.map tySPlace1.c p0.fHosts), .sl false 5 (List.map tySSending.c p0.fSent)]]⟩), (2, ⟨5, true, [[.nilsl, .nilsl, .nilsl, .int .i64 0, .int .i64 0]]⟩), (3, ⟨5, true, [[.nilsl, .ref 600113 0 e596.length, .nilsl, .int .i64 0, .int .i64 0]]⟩)] [BT.of 600113 tySNat 9 e596 true] (by rfl))
 (fun e596 =>
  .gh 1 (.virtC 600115 3 0 5) (.bind 0
  (.lp (fun (l605 : (List SHost1) × Int) => Ext.of .normal [(1, .ptr 1 0 0), (2, .ptr 2 0 0), (3, .ptr 3 0 0), (6, .int .i64 l605.2)] [(1, ⟨3, true, [[.sl false 6 (List.map tySDraft.c p0.fNats), .sl false 4 (List.map tySPlace1.c p0.fHosts), .sl false 5 (List.map tySSending.c p0.fSent)]]⟩), (2, ⟨5, true, [[.nilsl, .nilsl, .nilsl, .int .i64 0, .int .i64 0]]⟩), (3, ⟨5, true, [[.ref 600115 0 l605.1.length, .ref 600113 0 e596.length, .nilsl, .int .i64 0, .int .i64 0]]⟩)] [BT.of 600113 tySNat 9 e596 true, BT.of 600115 tySHost1 5 l605.1 true] (by rfl))
   (fun l605 =>
    .cnd 9 [46]
    (.br 9007 (decide (l605.2 < (mlen tySPlace1 p0.fHosts)))
     (.done (decide (l605.2 < 6)))
     (.done false))
    (fun (c606 : Bool) => [.bool c606]) fun c606 =>
    .br 0 c606
    (.row 11004 tySPlace1 p0.fHosts l605.2.toNat (decide (0 ≤ l605.2)) fun x607 =>
     .chk 12008 (!((wi64 ((e596.length : Int) + 1)) == 0)) (.call 13003 (s23 x607.fIp) [] [] fun r608 =>
     .bind 0
     (.br 0 (decide ((wi64 ((Int.tmod (wi64 x607.fNat) (wi64 ((e596.length : Int) + 1))) - 1)) < 0))
      (.call 15003 (s24 x607.fIp) [] [] fun r609 =>
       .done r609.fHost)
      (.done r608.fHost))
     (fun (e610 : ByteArray) => Ext.of .normal [(1, .ptr 1 0 0), (2, .ptr 2 0 0), (3, .ptr 3 0 0), (6, .int .i64 l605.2), (8, .ptr 8 0 0)] [(1, ⟨3, true, [[.sl false 6 (List.map tySDraft.c p0.fNats), .sl false 4 (List.map tySPlace1.c p0.fHosts), .sl false 5 (List.map tySSending.c p0.fSent)]]⟩), (2, ⟨5, true, [[.nilsl, .nilsl, .nilsl, .int .i64 0, .int .i64 0]]⟩), (3, ⟨5, true, [[.ref 600115 0 l605.1.length, .ref 600113 0 e596.length, .nilsl, .int .i64 0, .int .i64 0]]⟩), (8, ⟨5, true, [[.str e610, .int .i64 (wi64 ((Int.tmod (wi64 x607.fNat) (wi64 ((e596.length : Int) + 1))) - 1)), .int .i64 (wi64 ((10 : Int) * (wi64 (Int.tmod x607.fDelay 8)))), .int .i64 (wi64 (Int.tmod x607.fLose 12)), .int .i64 0]]⟩)] [BT.of 600113 tySNat 9 e596 true, BT.of 600115 tySHost1 5 l605.1 true] (by rfl))
     (fun e610 =>
      .bind 0
      (.br 0 (decide ((6 : Int) < (wi64 (Int.tmod x607.fLose 12))))
       (.done 0)
       (.done (wi64 (Int.tmod x607.fLose 12))))
      (fun (e611 : Int) => Ext.of .normal [(1, .ptr 1 0 0), (2, .ptr 2 0 0), (3, .ptr 3 0 0), (6, .int .i64 l605.2), (8, .ptr 8 0 0)] [(1, ⟨3, true, [[.sl false 6 (List.map tySDraft.c p0.fNats), .sl false 4 (List.map tySPlace1.c p0.fHosts), .sl false 5 (List.map tySSending.c p0.fSent)]]⟩), (2, ⟨5, true, [[.nilsl, .nilsl, .nilsl, .int .i64 0, .int .i64 0]]⟩), (3, ⟨5, true, [[.ref 600115 0 l605.1.length, .ref 600113 0 e596.length, .nilsl, .int .i64 0, .int .i64 0]]⟩), (8, ⟨5, true, [[.str e610, .int .i64 (wi64 ((Int.tmod (wi64 x607.fNat) (wi64 ((e596.length : Int) + 1))) - 1)), .int .i64 (wi64 ((10 : Int) * (wi64 (Int.tmod x607.fDelay 8)))), .int .i64 e611, .int .i64 0]]⟩)] [BT.of 600113 tySNat 9 e596 true, BT.of 600115 tySHost1 5 l605.1 true] (by rfl))
      (fun e611 =>
       .view 18006 (s66 (SNetwork.mk l605.1 e596 [] 0 0) (wi64 ((Int.tmod (wi64 x607.fNat) (wi64 ((e596.length : Int) + 1))) - 1)) e610) [(VwW.of 600115 tySHost1 l605.1), (VwW.of 600113 tySNat e596)] fun r612 =>
       .br 0 (decide (r612 < 0))
       (.app 19005 tySHost1 l605.1 [(SHost1.mk e610 (wi64 ((Int.tmod (wi64 x607.fNat) (wi64 ((e596.length : Int) + 1))) - 1)) (wi64 ((10 : Int) * (wi64 (Int.tmod x607.fDelay 8)))) e611 0)] 48 false (by intro h; cases h) (.gh 0 (.drop [600115]) (.gh 0 (.ren 101 600115) (.done (.inl ((l605.1 ++ [(SHost1.mk e610 (wi64 ((Int.tmod (wi64 x607.fNat) (wi64 ((e596.length : Int) + 1))) - 1)) (wi64 ((10 : Int) * (wi64 (Int.tmod x607.fDelay 8)))) e611 0)]), (wi64 (l605.2 + 1))))))))
       (.done (.inl (l605.1, (wi64 (l605.2 + 1)))))))))
    (.done (.inr l605.1)))
   ([], 0))
  (fun (e613 : (List SHost1)) => Ext.of (.exit 2) [(2, .ptr 2 0 0), (3, .ptr 3 0 0)] [(2, ⟨5, true, [[.nilsl, .nilsl, .nilsl, .int .i64 0, .int .i64 0]]⟩), (3, ⟨5, true, [[.ref 600115 0 e613.length, .ref 600113 0 e596.length, .nilsl, .int .i64 0, .int .i64 0]]⟩)] [BT.of 600113 tySNat 9 e596 true, BT.of 600115 tySHost1 5 e613 true] (by rfl))
  (fun e613 =>
   .br 0 ((e613.length : Int) == 0)
   (.call 21001 (s24 0) [] [] fun r614 =>
    .gh 0 (.share (VwW.of 110 tySHost1 [(SHost1.mk r614.fHost (-1) 0 0 0)]) 1) (.gh 0 (.share (VwW.of 600113 tySNat e596) 1) (.done (SNetwork.mk [(SHost1.mk r614.fHost (-1) 0 0 0)] e596 [] 0 0))))
   (.gh 0 (.share (VwW.of 600113 tySNat e596) 1) (.gh 0 (.share (VwW.of 600115 tySHost1 e613) 1) (.done (SNetwork.mk e613 e596 [] 0 0))))))))
theorem k39 (p0 : SDraft1) : FnD Tryd.prog GG [0, 1, 2, 3, 4, 5, 6, 7, 8, 17, 46, 80, 88, 96, 106] Tryd.f39 [.agg [.sl false 6 (List.map tySDraft.c p0.fNats), .sl false 4 (List.map tySPlace1.c p0.fHosts), .sl false 5 (List.map tySSending.c p0.fSent)]] (g39 p0) (fun r => .agg [.sl false 5 (List.map tySHost1.c r.fHosts), .sl false 9 (List.map tySNat.c r.fNats), .sl false 9 (List.map tySFlight.c r.fQueue), .int .i64 r.fNow, .int .i64 r.fSerial]) := by unfold FnD; kernel_rfl
noncomputable def s39 (p0 : SDraft1) : EV.Spec Tryd.prog GG (SNetwork) := .ofFn 39 mixed Tryd.func39 (k39 p0)
end Go.Proofs.YtdiagiflihpidaaDoor
namespace Go.Proofs.YtdiagiflihpidaaDoor
open Go Go.EV
set_option maxRecDepth 100000
noncomputable def g104 (p0 : Int) (p1 : Int) (p2 : (List SFlight)) : TT ((List SFlight) × Nat) :=
 .opr 1006 (Rule.cap3 (ty := tySFlight) (t := 75) (e := 144) (z := 9) (.tmp 8) (.tmp 9) (.tmp 10) (.tmp 12) 13 1000000 p2.length p2 .i64 .i64 .i64 p0 p1 (p2.length : Int) (by kernel_rfl) (by kernel_rfl)) fun _ =>
 .br 0 (p0 == p1)
 (.gh 0 (.ren 1000000 26) (.done (p2, p2.length)))
 (.chk 5003 (decide (0 ≤ p0) && decide (p0 ≤ (p2.length : Int))) (.chk 5006 (decide (0 ≤ p1) && decide (p1 ≤ (p2.length : Int)))
  (.opr 5007 (Rule.appSame (ty := tySFlight) (t := 75) (t2 := 75) (e := 144) (e2 := 144) (z := 9) (.tmp 22) (.tmp 25) 26 1000000 p0.toNat p1.toNat (p2.length - p1.toNat) p2 (by kernel_rfl) (by kernel_rfl) (by kernel_rfl) (fun _ => rfl)) fun _ =>
  .opr 6005 (Rule.cap2 (ty := tySFlight) (t := 75) (e := 144) (z := 9) (.tmp 27) (.tmp 29) (.tmp 30) 31 1000000 (p0.toNat + (p2.length - p1.toNat)) (over p2 p0.toNat ((p2.drop p1.toNat).take (p2.length - p1.toNat))) .i64 .i64 (((p0.toNat + (p2.length - p1.toNat)) : Nat) : Int) (p2.length : Int) (by kernel_rfl) (by kernel_rfl)) fun _ =>
  .opr 6006 (Rule.clear (ty := tySFlight) (t := 75) (e := 144) (z := 9) (.tmp 31) 1000000 ((((p0.toNat + (p2.length - p1.toNat)) : Nat) : Int)).toNat ((p2.length : Int).toNat - ((((p0.toNat + (p2.length - p1.toNat)) : Nat) : Int)).toNat) (over p2 p0.toNat ((p2.drop p1.toNat).take (p2.length - p1.toNat))) (SFlight.mk 0 0 0 0 (SAddr.mk ByteArray.empty 0) (SAddr.mk ByteArray.empty 0) ByteArray.empty) (by kernel_rfl) (by kernel_rfl) (by kernel_rfl) (by rfl) (fun _ => rfl)) fun _ =>
  .gh 0 (.ren 1000000 26) (.done ((over (over p2 p0.toNat ((p2.drop p1.toNat).take (p2.length - p1.toNat))) ((((p0.toNat + (p2.length - p1.toNat)) : Nat) : Int)).toNat (List.replicate ((p2.length : Int).toNat - ((((p0.toNat + (p2.length - p1.toNat)) : Nat) : Int)).toNat) (SFlight.mk 0 0 0 0 (SAddr.mk ByteArray.empty 0) (SAddr.mk ByteArray.empty 0) ByteArray.empty))), (p0.toNat + (p2.length - p1.toNat)))))))
theorem k104 (p0 : Int) (p1 : Int) (p2 : (List SFlight)) : FnB Tryd.prog GG [0, 1, 2, 6, 7, 16] Tryd.f104 [.ref 1000000 0 p2.length, .int .i64 p0, .int .i64 p1] (Ext.of .normal (argTs [.ref 1000000 0 p2.length, .int .i64 p0, .int .i64 p1]) [] [BT.of 1000000 tySFlight 9 p2 true] (by rfl)) (g104 p0 p1 p2) (fun (r : (List SFlight) × Nat) => .ref 26 0 r.2) (fun (r : (List SFlight) × Nat) => Ext.of .normal [] [] [BT.of 26 tySFlight 9 r.1 true] (by rfl)) := by unfold FnB; kernel_rfl
noncomputable def s104 (p0 : Int) (p1 : Int) (p2 : (List SFlight)) : EV.Spec Tryd.prog GG ((List SFlight)) := Spec.trim (.ofFnB 104 [26] mixed Tryd.func104 rfl (fun _ => rfl) (k104 p0 p1 p2)) tySFlight 26 9 (by decide) (fun _ => rfl) (fun _ => rfl) (fun _ => rfl)
noncomputable def g105 (p0 : SCarrier) (p1 : SFlight) : TT (Int × SAddr × Bool) :=
 .call 1008 (s95 p0 (SPlace.mk p1.fWithin p1.fTo.fHost)) [] [] fun r623 =>
 .done (r623, p1.fTo, (decide ((0 : Int) ≤ p1.fWithin)))
theorem k105 (p0 : SCarrier) (p1 : SFlight) : FnD Tryd.prog GG [0, 1, 3, 4, 5, 6] Tryd.f105 [.snap [.sl false 5 (List.map tySHost1.c p0.fNetwork.fHosts), .sl false 9 (List.map tySNat.c p0.fNetwork.fNats), .sl false 9 (List.map tySFlight.c p0.fNetwork.fQueue), .int .i64 p0.fNetwork.fNow, .int .i64 p0.fNetwork.fSerial], .agg [.int .i64 p1.fDue, .int .i64 p1.fSerial, .int .i64 p1.fVia, .int .i64 p1.fWithin, .str p1.fFrom.fHost, .int .i64 p1.fFrom.fPort, .str p1.fTo.fHost, .int .i64 p1.fTo.fPort, .str p1.fData]] (g105 p0 p1) (fun r => .tup [.int .i64 r.1, .agg [.str r.2.1.fHost, .int .i64 r.2.1.fPort], .bool r.2.2]) := by unfold FnD; kernel_rfl
noncomputable def s105 (p0 : SCarrier) (p1 : SFlight) : EV.Spec Tryd.prog GG (Int × SAddr × Bool) := .ofFn 105 mixed Tryd.func105 (k105 p0 p1)
noncomputable def g106 (p0 : SCarrier) (p1 : SFlight) : TT (Int × SAddr × Bool) :=
 .call 1006 (s95 p0 (SPlace.mk (-1) p1.fTo.fHost)) [] [] fun r624 =>
 .done (r624, p1.fTo, (decide ((0 : Int) ≤ r624)))
theorem k106 (p0 : SCarrier) (p1 : SFlight) : FnD Tryd.prog GG [0, 1, 3, 4, 5, 6, 7] Tryd.f106 [.snap [.sl false 5 (List.map tySHost1.c p0.fNetwork.fHosts), .sl false 9 (List.map tySNat.c p0.fNetwork.fNats), .sl false 9 (List.map tySFlight.c p0.fNetwork.fQueue), .int .i64 p0.fNetwork.fNow, .int .i64 p0.fNetwork.fSerial], .agg [.int .i64 p1.fDue, .int .i64 p1.fSerial, .int .i64 p1.fVia, .int .i64 p1.fWithin, .str p1.fFrom.fHost, .int .i64 p1.fFrom.fPort, .str p1.fTo.fHost, .int .i64 p1.fTo.fPort, .str p1.fData]] (g106 p0 p1) (fun r => .tup [.int .i64 r.1, .agg [.str r.2.1.fHost, .int .i64 r.2.1.fPort], .bool r.2.2]) := by unfold FnD; kernel_rfl
noncomputable def s106 (p0 : SCarrier) (p1 : SFlight) : EV.Spec Tryd.prog GG (Int × SAddr × Bool) := .ofFn 106 mixed Tryd.func106 (k106 p0 p1)
noncomputable def g124 (p0 : SNat) (p1 : SFlight) : TT (Bool) :=
 .done (decide (p0.fHost = p1.fTo.fHost))
theorem k124 (p0 : SNat) (p1 : SFlight) : FnD Tryd.prog GG [0, 1, 2, 3] Tryd.f124 [.agg [.int .i64 p0.fMapping, .int .i64 p0.fFilter, .int .i64 p0.fTimeout, .bool p0.fHairpin, .str p0.fHost, .int .i64 p0.fLow, .int .i64 p0.fHigh, .int .i64 p0.fNow, .sl false 7 (List.map tySBinding.c p0.fTable)], .snap [.int .i64 p1.fDue, .int .i64 p1.fSerial, .int .i64 p1.fVia, .int .i64 p1.fWithin, .str p1.fFrom.fHost, .int .i64 p1.fFrom.fPort, .str p1.fTo.fHost, .int .i64 p1.fTo.fPort, .str p1.fData]] (g124 p0 p1) (fun r => .bool r) := by unfold FnD; kernel_rfl
noncomputable def s124 (p0 : SNat) (p1 : SFlight) : EV.Spec Tryd.prog GG (Bool) := .ofFn 124 mixed Tryd.func124 (k124 p0 p1)
noncomputable def g123 (p0 : (List SNat)) (p1 : SFlight) : TT (Int) :=
 .bind2 1
 (.lp (fun (l628 : Int) => Ext.lit .normal [(0, .sl false 9 (List.map tySNat.c p0)), (1, .fn 124 [] [.snap [.int .i64 p1.fDue, .int .i64 p1.fSerial, .int .i64 p1.fVia, .int .i64 p1.fWithin, .str p1.fFrom.fHost, .int .i64 p1.fFrom.fPort, .str p1.fTo.fHost, .int .i64 p1.fTo.fPort, .str p1.fData]]), (4, .int .i64 0), (7, .int .i64 (mlen tySNat p0)), (8, .int .i64 l628)] [])
  (fun l628 =>
   .br 0 (decide (l628 < (mlen tySNat p0)))
   (.row 4004 tySNat p0 l628.toNat (decide (0 ≤ l628)) fun x629 =>
    .call 4006 (s124 x629 p1) [] [] fun r630 =>
    .br 0 r630
    (.done (.inr (.inl l628)))
    (.done (.inl (wi64 (l628 + 1)))))
   (.done (.inr (.inr ()))))
  0)
 (fun (e631 : Int) => Ext.lit .ret [(4, .int .i64 e631)] [])
 (fun (_ : Unit) => Ext.lit (.exit 0) [(4, .int .i64 0)] [])
 (fun e631 =>
  .done e631)
 (fun _ =>
  .done (-1))
theorem k123 (p0 : (List SNat)) (p1 : SFlight) : FnD Tryd.prog GG [0, 1, 4, 5, 7, 8, 9, 16] Tryd.f123 [.sl false 9 (List.map tySNat.c p0), .fn 124 [] [.snap [.int .i64 p1.fDue, .int .i64 p1.fSerial, .int .i64 p1.fVia, .int .i64 p1.fWithin, .str p1.fFrom.fHost, .int .i64 p1.fFrom.fPort, .str p1.fTo.fHost, .int .i64 p1.fTo.fPort, .str p1.fData]]] (g123 p0 p1) (fun r => .int .i64 r) := by unfold FnD; kernel_rfl
noncomputable def s123 (p0 : (List SNat)) (p1 : SFlight) : EV.Spec Tryd.prog GG (Int) := .ofFn 123 mixed Tryd.func123 (k123 p0 p1)
noncomputable def g107 (p0 : SFlight) (p1 : Int) (p2 : Int) (p3 : (List SHost1)) (p4 : (List SNat)) (p5 : (List SFlight)) : TT ((List SNat) × ByteArray × Int × Int) :=
 .view 1007 (s123 p4 p0) [(VwW.of 1000002 tySNat p4)] fun r639 =>
 .cnd 2 [37]
 (.br 2004 (decide (r639 < 0))
  (.done true)
  (.br 2009 (r639 == p0.fVia)
   (.chk 2015 (decide (0 ≤ r639) && decide (r639 < (p4.length : Int))) (.row 2017 tySNat p4 (0 + r639.toNat) true fun x640 =>
    .done (!x640.fHairpin)))
   (.done false)))
 (fun (c641 : Bool) => [.bool c641]) fun c641 =>
 .br 0 c641
 (.done (p4, p0.fTo.fHost, p0.fTo.fPort, (-1)))
 (.chk 4007 (decide (0 ≤ r639) && decide (r639 < (p4.length : Int))) (.row 4008 tySNat p4 (0 + r639.toNat) true fun x642 =>
  .call 4018 (s27 x642 p1 p0.fFrom p0.fTo) [] [] fun r643 =>
  .br 0 (r643.2.2 != 0)
  (.done (p4, p0.fTo.fHost, p0.fTo.fPort, (-1)))
  (.chk 7008 (decide (0 ≤ r639) && decide (r639 < (p4.length : Int))) (.row 7009 tySNat p4 (0 + r639.toNat) true fun x644 =>
   .re 7009 (ReW.put 1000002 9 tySNat p4 (0 + r639.toNat) r643.1) (.gh 10 (.len 1000002 ((p4.set (0 + r639.toNat) r643.1).length) [p4.length] (by simp)) (.view 8006 (s95 (SCarrier.mk (SNetwork.mk p3 (p4.set (0 + r639.toNat) r643.1) p5 p1 p2)) (SPlace.mk r639 r643.2.1.fHost)) [(VwW.of 1000001 tySHost1 p3), (VwW.of 1000002 tySNat (p4.set (0 + r639.toNat) r643.1)), (VwW.of 1000003 tySFlight p5)] fun r645 =>
   .done ((p4.set (0 + r639.toNat) r643.1), r643.2.1.fHost, r643.2.1.fPort, r645)))))))
theorem k107 (p0 : SFlight) (p1 : Int) (p2 : Int) (p3 : (List SHost1)) (p4 : (List SNat)) (p5 : (List SFlight)) : FnB Tryd.prog GG [0, 1, 3, 4, 5, 6, 7, 8, 9, 10, 37, 63] Tryd.f107 [.ptr 1000000 0 0, .agg [.int .i64 p0.fDue, .int .i64 p0.fSerial, .int .i64 p0.fVia, .int .i64 p0.fWithin, .str p0.fFrom.fHost, .int .i64 p0.fFrom.fPort, .str p0.fTo.fHost, .int .i64 p0.fTo.fPort, .str p0.fData]] (Ext.of .normal (argTs [.ptr 1000000 0 0, .agg [.int .i64 p0.fDue, .int .i64 p0.fSerial, .int .i64 p0.fVia, .int .i64 p0.fWithin, .str p0.fFrom.fHost, .int .i64 p0.fFrom.fPort, .str p0.fTo.fHost, .int .i64 p0.fTo.fPort, .str p0.fData]]) [(1000000, ⟨5, true, [[.ref 1000001 0 p3.length, .ref 1000002 0 p4.length, .ref 1000003 0 p5.length, .int .i64 p1, .int .i64 p2]]⟩)] [BT.of 1000001 tySHost1 5 p3 true, BT.of 1000002 tySNat 9 p4 true, BT.of 1000003 tySFlight 9 p5 true] (by rfl)) (g107 p0 p1 p2 p3 p4 p5) (fun (r : (List SNat) × ByteArray × Int × Int) => .tup [.int .i64 r.2.2.2, .agg [.str r.2.1, .int .i64 r.2.2.1], .bool true]) (fun (r : (List SNat) × ByteArray × Int × Int) => Ext.of .normal [] [(1000000, ⟨5, true, [[.ref 1000001 0 p3.length, .ref 1000002 0 r.1.length, .ref 1000003 0 p5.length, .int .i64 p1, .int .i64 p2]]⟩)] [BT.of 1000001 tySHost1 5 p3 true, BT.of 1000002 tySNat 9 r.1 true, BT.of 1000003 tySFlight 9 p5 true] (by rfl)) := by unfold FnB; kernel_rfl
noncomputable def s107 (p0 : SFlight) (p1 : Int) (p2 : Int) (p3 : (List SHost1)) (p4 : (List SNat)) (p5 : (List SFlight)) : EV.Spec Tryd.prog GG ((List SNat) × ByteArray × Int × Int) := .ofFnB 107 [1000001, 1000002, 1000003] mixed Tryd.func107 rfl (fun _ => rfl) (k107 p0 p1 p2 p3 p4 p5)
noncomputable def g77 (p0 : Int) (p1 : Int) (p2 : (List SHost1)) (p3 : (List SNat)) (p4 : (List SFlight)) : TT ((List SNat) × Int × ByteArray × Int × (List SFlight) × Int × ByteArray × Int × ByteArray) :=
 .view 1002 (s76 (SCarrier.mk (SNetwork.mk p2 p3 p4 p0 p1))) [(VwW.of 1000001 tySHost1 p2), (VwW.of 1000002 tySNat p3), (VwW.of 1000003 tySFlight p4)] fun r620 =>
 .chk 2007 (decide (0 ≤ r620) && decide (r620 < (p4.length : Int))) (.row 2008 tySFlight p4 (0 + r620.toNat) true fun x621 =>
 .call 3010 (s104 r620 (wi64 (r620 + 1)) p4) [(1000000, 1000003)] [(26, 500120)] fun r622 =>
 .tt (.view 9003 (s105 (SCarrier.mk (SNetwork.mk p2 p3 r622 (if x621.fDue > p0 then x621.fDue else p0) p1)) x621) [(VwW.of 1000001 tySHost1 p2), (VwW.of 1000002 tySNat p3), (VwW.of 500120 tySFlight r622)] fun r623 =>
 .br 0 r623.2.2
 (.done (p3, r623.1, r623.2.1.fHost, r623.2.1.fPort, r622, (if x621.fDue > p0 then x621.fDue else p0), x621.fFrom.fHost, x621.fFrom.fPort, x621.fData))
 (.tt (.gh 11 (.drop [9]) (.view 9003 (s106 (SCarrier.mk (SNetwork.mk p2 p3 r622 (if x621.fDue > p0 then x621.fDue else p0) p1)) x621) [(VwW.of 1000001 tySHost1 p2), (VwW.of 1000002 tySNat p3), (VwW.of 500120 tySFlight r622)] fun r624 =>
  .br 0 r624.2.2
  (.done (p3, r624.1, r624.2.1.fHost, r624.2.1.fPort, r622, (if x621.fDue > p0 then x621.fDue else p0), x621.fFrom.fHost, x621.fFrom.fPort, x621.fData))
  (.tt (.gh 11 (.drop [9]) (.call 9003 (s107 x621 (if x621.fDue > p0 then x621.fDue else p0) p1 p2 p3 r622) [(1000000, 1000000), (1000001, 1000001), (1000002, 1000002), (1000003, 500120)] [] fun r631 =>
   .tt (.done (r631.1, r631.2.2.2, r631.2.1, r631.2.2.1, r622, (if x621.fDue > p0 then x621.fDue else p0), x621.fFrom.fHost, x621.fFrom.fPort, x621.fData))))))))))
theorem k77 (p0 : Int) (p1 : Int) (p2 : (List SHost1)) (p3 : (List SNat)) (p4 : (List SFlight)) : FnB Tryd.prog GG [0, 2, 3, 4, 5, 7, 8, 9, 10, 59, 60, 61, 70] Tryd.f77 [.ptr 1000000 0 0] (Ext.of .normal (argTs [.ptr 1000000 0 0]) [(1000000, ⟨5, true, [[.ref 1000001 0 p2.length, .ref 1000002 0 p3.length, .ref 1000003 0 p4.length, .int .i64 p0, .int .i64 p1]]⟩)] [BT.of 1000001 tySHost1 5 p2 true, BT.of 1000002 tySNat 9 p3 true, BT.of 1000003 tySFlight 9 p4 true] (by rfl)) (g77 p0 p1 p2 p3 p4) (fun (r : (List SNat) × Int × ByteArray × Int × (List SFlight) × Int × ByteArray × Int × ByteArray) => .agg [.int .i64 r.2.1, .str r.2.2.2.2.2.2.1, .int .i64 r.2.2.2.2.2.2.2.1, .str r.2.2.1, .int .i64 r.2.2.2.1, .str r.2.2.2.2.2.2.2.2]) (fun (r : (List SNat) × Int × ByteArray × Int × (List SFlight) × Int × ByteArray × Int × ByteArray) => Ext.of .normal [] [(1000000, ⟨5, true, [[.ref 1000001 0 p2.length, .ref 1000002 0 r.1.length, .ref 500120 0 r.2.2.2.2.1.length, .int .i64 r.2.2.2.2.2.1, .int .i64 p1]]⟩)] [BT.of 500120 tySFlight 9 r.2.2.2.2.1 true, BT.of 1000001 tySHost1 5 p2 true, BT.of 1000002 tySNat 9 r.1 true] (by rfl)) := by unfold FnB; kernel_rfl
noncomputable def s77 (p0 : Int) (p1 : Int) (p2 : (List SHost1)) (p3 : (List SNat)) (p4 : (List SFlight)) : EV.Spec Tryd.prog GG ((List SNat) × Int × ByteArray × Int × (List SFlight) × Int × ByteArray × Int × ByteArray) := .ofFnB 77 [500120, 1000001, 1000002] mixed Tryd.func77 rfl (fun _ => rfl) (k77 p0 p1 p2 p3 p4)
noncomputable def g48 (p0 : SNetwork) : TT (SNetwork × SDelivery × Int) :=
 .call2 1002 (s67 p0) [] [(7, 500116), (500100, 500117), (500101, 500118), (500102, 500119)] (fun r615 =>
  .ff (.tt (.done ((SNetwork.mk [] [] [] 0 0), (SDelivery.mk 0 (SAddr.mk ByteArray.empty 0) (SAddr.mk ByteArray.empty 0) ByteArray.empty), 140))))
 (fun r616 =>
  .bind 0
  (.br 0 ((p0.fQueue.length : Int) == 0)
   (.done 4)
   (.done 0))
  (fun (e617 : Int) => Ext.of .normal [(2, .ptr 2 0 0), (3, .ptr 3 0 0), (4, .int .i64 0), (5, .ptr 500116 0 0), (6, .int .i64 e617)] [(2, ⟨5, true, [[.nilsl, .nilsl, .nilsl, .int .i64 0, .int .i64 0]]⟩), (3, ⟨6, true, [[.int .i64 0, .str ByteArray.empty, .int .i64 0, .str ByteArray.empty, .int .i64 0, .str ByteArray.empty]]⟩), (500116, ⟨5, true, [[.ref 500117 0 p0.fHosts.length, .ref 500118 0 p0.fNats.length, .ref 500119 0 p0.fQueue.length, .int .i64 p0.fNow, .int .i64 p0.fSerial]]⟩)] [BT.of 500117 tySHost1 5 p0.fHosts true, BT.of 500118 tySNat 9 p0.fNats true, BT.of 500119 tySFlight 9 p0.fQueue true] (by rfl))
  (fun e617 =>
   .br 0 (e617 != 0)
   (.done ((SNetwork.mk [] [] [] 0 0), (SDelivery.mk 0 (SAddr.mk ByteArray.empty 0) (SAddr.mk ByteArray.empty 0) ByteArray.empty), e617))
   (.call 6002 (s77 p0.fNow p0.fSerial p0.fHosts p0.fNats p0.fQueue) [(1000000, 500116), (1000001, 500117), (1000002, 500118), (1000003, 500119)] [(500120, 500121)] fun r632 =>
    .gh 0 (.share (VwW.of 500117 tySHost1 p0.fHosts) 1) (.gh 0 (.share (VwW.of 500118 tySNat r632.1) 1) (.gh 0 (.share (VwW.of 500121 tySFlight r632.2.2.2.2.1) 1) (.done ((SNetwork.mk p0.fHosts r632.1 r632.2.2.2.2.1 r632.2.2.2.2.2.1 p0.fSerial), (SDelivery.mk r632.2.1 (SAddr.mk r632.2.2.2.2.2.2.1 r632.2.2.2.2.2.2.2.1) (SAddr.mk r632.2.2.1 r632.2.2.2.1) r632.2.2.2.2.2.2.2.2), 0)))))))
theorem k48 (p0 : SNetwork) : FnD Tryd.prog GG [0, 1, 2, 3, 4, 5, 6, 7, 23, 25] Tryd.f48 [.agg [.sl false 5 (List.map tySHost1.c p0.fHosts), .sl false 9 (List.map tySNat.c p0.fNats), .sl false 9 (List.map tySFlight.c p0.fQueue), .int .i64 p0.fNow, .int .i64 p0.fSerial]] (g48 p0) (fun r => .tup [.agg [.sl false 5 (List.map tySHost1.c r.1.fHosts), .sl false 9 (List.map tySNat.c r.1.fNats), .sl false 9 (List.map tySFlight.c r.1.fQueue), .int .i64 r.1.fNow, .int .i64 r.1.fSerial], .agg [.int .i64 r.2.1.fHost, .str r.2.1.fFrom.fHost, .int .i64 r.2.1.fFrom.fPort, .str r.2.1.fTo.fHost, .int .i64 r.2.1.fTo.fPort, .str r.2.1.fData], .int .i64 r.2.2]) := by unfold FnD; kernel_rfl
noncomputable def s48 (p0 : SNetwork) : EV.Spec Tryd.prog GG (SNetwork × SDelivery × Int) := .ofFn 48 mixed Tryd.func48 (k48 p0)
end Go.Proofs.YtdiagiflihpidaaDoor
namespace Go.Proofs.YtdiagiflihpidaaDoor
open Go Go.EV
set_option maxRecDepth 100000
end Go.Proofs.YtdiagiflihpidaaDoor
namespace Go.Proofs.YtdiagiflihpidaaDoor
open Go Go.EV
set_option maxRecDepth 100000
theorem wi64_id {n : Int} (h1 : -9223372036854775808 ≤ n) (h2 : n ≤ 9223372036854775807) : wi64 n = n := by
 unfold wi64 IntKind.wrap
 simp [IntKind.signed, IntKind.bits]
 omega
theorem fuel {n : Nat} (h : n ≤ 140737488355329) : n < FUEL := by unfold FUEL; omega
theorem eA_iff {a b : SAddr} : (decide (a.fHost = b.fHost) && ((a.fPort == b.fPort) && true)) = true ↔ a = b := by
 cases a; cases b; simp
def Usable (a : SAddr) (n : Int) : Prop := ((a.fHost.size : Int) = n ∧ (n = 4 ∨ n = 16)) ∧ 1 ≤ a.fPort ∧ a.fPort ≤ 65535
theorem ok118 (h : ByteArray) : SOk (s118 h) (fun r => (r.2 = 0 ↔ ((h.size : Int) = 4 ∨ (h.size : Int) = 16))) := by
 show Ok (g118 h) _
 unfold g118
 refine Ok.cnd (R := fun c => (c = true ↔ ¬ ((h.size : Int) = 4 ∨ (h.size : Int) = 16))) ?_ fun c hc => ?_
 ·refine Ok.br (fun h1 => Ok.done ?_) (fun h1 => Ok.done ?_)
  ·simp at h1 ⊢; omega
  ·simp at h1 ⊢; omega
 ·refine Ok.br (fun h1 => Ok.done ?_) (fun h1 => Ok.done ?_)
  ·simp [hc.1 h1]
  ·subst h1; simp at hc ⊢; omega
theorem ok94 (a : SAddr) : SOk (s94 a) (fun r => (r = 0 ↔ ((a.fHost.size : Int) = 4 ∨ (a.fHost.size : Int) = 16) ∧ 0 ≤ a.fPort ∧ a.fPort ≤ 65535)) := by
 show Ok (g94 a) _
 unfold g94
 refine Ok.call (ok118 _) fun r hr => ?_
 refine Ok.cnd (R := fun c => (c = true ↔ ¬ (((a.fHost.size : Int) = 4 ∨ (a.fHost.size : Int) = 16) ∧ 0 ≤ a.fPort ∧ a.fPort ≤ 65535))) ?_ fun c hc => ?_
 ·refine Ok.br (fun h1 => Ok.done ?_) (fun h1 => Ok.br (fun h2 => Ok.done ?_) (fun h2 => Ok.done ?_))
  ·simp at h1 ⊢; rw [hr] at h1; omega
  ·simp at h2 ⊢; omega
  ·simp at h1 h2 ⊢; rw [hr] at h1; omega
 ·refine Ok.br (fun h1 => Ok.done ?_) (fun h1 => Ok.done ?_)
  ·simp; have := hc.1 h1; omega
  ·subst h1; simp at hc ⊢; omega
theorem ok84 (r : SRouter) (a : SAddr) : SOk (s84 r a) (fun b => (b = true ↔ Usable a (r.fNat.fHost.size : Int))) := by
 show Ok (g84 r a) _
 unfold g84
 refine Ok.cnd (R := fun c => (c = true ↔ Usable a (r.fNat.fHost.size : Int))) ?_ fun c hc => Ok.done hc
 refine Ok.call (ok94 _) fun x hx => ?_
 unfold Usable
 refine Ok.br (fun h1 => Ok.br (fun h2 => Ok.done ?_) (fun h2 => Ok.done ?_)) (fun h1 => Ok.done ?_)
 ·simp at h1 h2 ⊢; rw [hx] at h1; omega
 ·simp at h1 h2 ⊢; omega
 ·simp at h1 ⊢; rw [hx] at h1; omega
def IsKey (k : Int) (a : SAddr) (n : Int) : Prop :=
 (k = 1 ∧ a = ⟨ByteArray.empty, 0⟩) ∨ (k = 2 ∧ a.fPort = 0 ∧ Usable ⟨a.fHost, 1⟩ n) ∨ (k ≠ 1 ∧ k ≠ 2 ∧ Usable a n)
theorem empty_iff (a : SAddr) : (decide (a.fHost = ByteArray.empty) && ((a.fPort == 0) && true)) = true ↔ a = ⟨ByteArray.empty, 0⟩ := eA_iff (b := ⟨ByteArray.empty, 0⟩)
theorem ok111 (r : SRouter) (k : Int) (a : SAddr) : SOk (s111 r k a) (fun b => (b = true ↔ IsKey k a (r.fNat.fHost.size : Int))) := by
 show Ok (g111 r k a) _
 unfold g111 IsKey
 refine Ok.br (fun h1 => Ok.done ?_) (fun h1 => Ok.br (fun h2 => ?_) (fun h2 => ?_))
 ·rw [empty_iff]; simp at h1; simp [h1]
 ·simp at h1 h2
  subst h2
  refine Ok.cnd (R := fun c => (c = true ↔ a.fPort = 0 ∧ Usable ⟨a.fHost, 1⟩ (r.fNat.fHost.size : Int))) ?_ fun c hc => Ok.done (by simp [hc])
  refine Ok.br (fun h3 => ?_) (fun h3 => Ok.done ?_)
  ·refine Ok.call (ok84 _ _) fun x hx => Ok.done ?_
   simp at h3; simp [h3, hx]
  ·simp at h3; simp [h3]
 ·simp at h1 h2
  refine Ok.call (ok84 _ _) fun x hx => Ok.done ?_
  simp [h1, h2, hx]
end Go.Proofs.YtdiagiflihpidaaDoor
namespace Go.Proofs.YtdiagiflihpidaaDoor
open Go Go.EV
set_option maxRecDepth 100000
abbrev Small {α : Type} (l : List α) : Prop := l.length ≤ 1000000
theorem at_of {α : Type} {l : List α} {i : Int} (h0 : 0 ≤ i) (h : i < (l.length : Int)) : ∃ y, l[i.toNat]? = some y :=
 ⟨l[i.toNat]'(by omega), List.getElem?_eq_getElem (by omega)⟩
theorem mem_take_iff {α : Type} {l : List α} {i : Nat} {x : α} : x ∈ l.take i ↔ ∃ j, j < i ∧ l[j]? = some x := by
 constructor
 ·intro h
  obtain ⟨j, hj⟩ := List.mem_iff_getElem?.1 h
  rw [List.getElem?_take] at hj
  split at hj
  ·rename_i hlt; exact ⟨j, hlt, hj⟩
  ·simp at hj
 ·rintro ⟨j, hj, hx⟩
  exact List.mem_iff_getElem?.2 ⟨j, by rw [List.getElem?_take, if_pos hj]; exact hx⟩
theorem wi64_succ {i : Int} {n : Nat} (h0 : 0 ≤ i) (h : i < n) (hn : n ≤ 1000000) : wi64 (i + 1) = i + 1 := wi64_id (by omega) (by omega)
theorem toNat_succ {i : Int} (h0 : 0 ≤ i) : (i + 1).toNat = i.toNat + 1 := by omega
theorem upto_succ {p : Nat → Prop} {i : Nat} (h : ∀ j, j < i → p j) (hi : p i) : ∀ j, j < i + 1 → p j := fun j hj => by
 rcases Nat.lt_or_ge j i with h1 | h1
 ·exact h j h1
 ·have : j = i := by omega
  subst this; exact hi
theorem ok126 (a b : SAddr) : SOk (s126 a b) (fun c => (c = true ↔ b = a)) := by
 show Ok (g126 a b) _
 unfold g126
 refine Ok.call (R := fun c => (c = true ↔ b = a)) ?_ fun c hc => Ok.done hc
 show Ok (g114 b a) _
 unfold g114
 exact Ok.done eA_iff
theorem ok128 (l : List SAddr) (x : SAddr) (hl : Small l) : SOk (s128 l x) (fun i => (0 ≤ i ↔ x ∈ l)) := by
 show Ok (g128 l x) _
 unfold g128
 refine Ok.bind2 (R := fun e => match e with | .inl i => 0 ≤ i ∧ x ∈ l | .inr _ => x ∉ l) ?_ (fun e he => Ok.done ⟨fun _ => he.2, fun _ => he.1⟩) (fun e he => Ok.done ⟨fun h => by simp at h, fun h => absurd h he⟩)
 refine Ok.lp (fun i => 0 ≤ i ∧ i ≤ (l.length : Int) ∧ ∀ j, j < i.toNat → l[j]? ≠ some x) (fun i => l.length - i.toNat) ⟨by simp, by simp, by simp⟩ (fuel (by simp; omega)) fun i hi => ?_
 obtain ⟨h0, h1, h2⟩ := hi
 refine Ok.br (fun hc => ?_) (fun hc => Ok.done ?_)
 ·rw [mlen_eq, decide_eq_true_eq] at hc
  obtain ⟨y, hy⟩ := at_of h0 hc
  refine Ok.row (by simpa using h0) hy ?_
  refine Ok.call (ok126 _ _) fun c hcc => ?_
  refine Ok.br (fun h3 => Ok.done ?_) (fun h3 => Ok.done ?_)
  ·exact ⟨h0, by rw [hcc.1 h3]; exact List.mem_of_getElem? hy⟩
  ·rw [wi64_succ h0 hc hl]
   refine ⟨⟨by omega, by omega, ?_⟩, by simp only; omega⟩
   rw [toNat_succ h0]
   refine upto_succ h2 ?_
   rw [hy]; intro e
   have := hcc.2 (by simpa using e.symm)
   rw [this] at h3; simp at h3
 ·rw [mlen_eq, decide_eq_false_iff_not] at hc
  intro hm
  obtain ⟨j, hj⟩ := List.mem_iff_getElem?.1 hm
  exact h2 j (by have := (List.getElem?_eq_some_iff.1 hj).1; omega) hj
theorem ok125 (l : List SAddr) (x : SAddr) (hl : Small l) : SOk (s125 l x) (fun c => (c = true ↔ x ∈ l)) := by
 show Ok (g125 l x) _
 unfold g125
 exact Ok.call (ok128 l x hl) fun i hi => Ok.done (by simp [hi])
def AllK (k : Int) (l : List SAddr) (n : Int) : Prop := ∀ (i : Nat) (a : SAddr), l[i]? = some a → IsKey k a n ∧ ∀ j, j < i → l[j]? ≠ some a
theorem ok113 (a : SAddr) (r : SRouter) : SOk (s113 a r) (fun b => (b = true ↔ IsKey r.fNat.fFilter a (r.fNat.fHost.size : Int))) := by
 show Ok (g113 a r) _
 unfold g113
 exact Ok.call (ok111 _ _ _) fun c hc => Ok.done hc
theorem ok112 (l : List SAddr) (r : SRouter) (hl : Small l) : SOk (s112 l r) (fun b => (b = true ↔ AllK r.fNat.fFilter l (r.fNat.fHost.size : Int))) := by
 show Ok (g112 l r) _
 unfold g112
 refine Ok.bind2 (R := fun e => match e with | .inl _ => ¬ AllK r.fNat.fFilter l (r.fNat.fHost.size : Int) | .inr _ => AllK r.fNat.fFilter l (r.fNat.fHost.size : Int)) ?_ (fun e he => Ok.done ⟨fun h => by simp at h, fun h => absurd h he⟩) (fun e he => Ok.done ⟨fun _ => he, fun _ => rfl⟩)
 refine Ok.lp (fun i => 0 ≤ i ∧ i ≤ (l.length : Int) ∧ ∀ j, j < i.toNat → ∀ a, l[j]? = some a → IsKey r.fNat.fFilter a (r.fNat.fHost.size : Int) ∧ ∀ m, m < j → l[m]? ≠ some a) (fun i => l.length - i.toNat) ⟨by simp, by simp, by simp⟩ (fuel (by simp; omega)) fun i hi => ?_
 obtain ⟨h0, h1, h2⟩ := hi
 refine Ok.br (fun hc => ?_) (fun hc => Ok.done ?_)
 ·rw [mlen_eq, decide_eq_true_eq] at hc
  obtain ⟨y, hy⟩ := at_of h0 hc
  refine Ok.row (by simpa using h0) hy ?_
  refine Ok.cnd (R := fun c => (c = false ↔ IsKey r.fNat.fFilter y (r.fNat.fHost.size : Int) ∧ ∀ m, m < i.toNat → l[m]? ≠ some y)) ?_ fun c hcc => ?_
  ·refine Ok.call (ok113 _ _) fun c hcc => ?_
   refine Ok.br (fun h3 => Ok.done ?_) (fun h3 => ?_)
   ·have : ¬ IsKey r.fNat.fFilter y (r.fNat.fHost.size : Int) := fun h => by rw [hcc.2 h] at h3; simp at h3
    exact ⟨fun h => by simp at h, fun h => absurd h.1 this⟩
   ·refine Ok.chk (by rw [mlenn_eq]; simp; omega) (Ok.re (Ok.view (ok125 _ _ (by simp; omega)) fun d hd => Ok.done ?_))
    have hk : IsKey r.fNat.fFilter y (r.fNat.fHost.size : Int) := hcc.1 (by simpa using h3)
    rw [mem_take_iff] at hd
    constructor
    ·intro e
     refine ⟨hk, fun m hm hx => ?_⟩
     rw [hd.2 ⟨m, hm, hx⟩] at e; simp at e
    ·intro e
     cases d with
     | false => rfl
     | true => obtain ⟨m, hm, hx⟩ := hd.1 rfl; exact absurd hx (e.2 m hm)
  ·refine Ok.br (fun h3 => Ok.done ?_) (fun h3 => Ok.done ?_)
   ·intro hall
    have := hcc.2 (hall i.toNat y hy)
    rw [this] at h3; simp at h3
   ·rw [wi64_succ h0 hc hl]
    refine ⟨⟨by omega, by omega, ?_⟩, by simp only; omega⟩
    rw [toNat_succ h0]
    refine upto_succ h2 fun a ha => ?_
    rw [hy] at ha; simp only [Option.some.injEq] at ha; subst ha
    exact hcc.1 h3
 ·rw [mlen_eq, decide_eq_false_iff_not] at hc
  refine fun (j : Nat) a hj => ?_
  exact h2 j (by have := (List.getElem?_eq_some_iff.1 hj).1; omega) a hj
def BindOk (n : SNat) (b : SBinding) : Prop :=
 Usable b.fInside (n.fHost.size : Int) ∧ b.fInside.fHost ≠ n.fHost ∧ IsKey n.fMapping b.fPeer (n.fHost.size : Int) ∧ n.fLow ≤ b.fPort ∧ b.fPort ≤ n.fHigh ∧ n.fNow < b.fUntil ∧ b.fUntil ≤ wi64 (n.fNow + n.fTimeout)
def OpenOk (n : SNat) (l : List SAddr) : Prop :=
 (n.fFilter = 1 ∧ l.length = 0) ∨ (n.fFilter ≠ 1 ∧ 1 ≤ l.length ∧ l.length ≤ 16 ∧ AllK n.fFilter l (n.fHost.size : Int))
def Alike (a b : SBinding) : Prop := a.fPort = b.fPort ∨ (a.fInside = b.fInside ∧ a.fPeer = b.fPeer)
theorem Alike.symm {a b : SBinding} (h : Alike a b) : Alike b a := by
 rcases h with h | ⟨h1, h2⟩
 ·exact .inl h.symm
 ·exact .inr ⟨h1.symm, h2.symm⟩
theorem ok82 (r : SRouter) (b : SBinding) (hl : Small b.fOpen) : SOk (s82 r b) (fun c => (c = true ↔ BindOk r.fNat b ∧ OpenOk r.fNat b.fOpen)) := by
 show Ok (g82 r b) _
 unfold g82
 refine Ok.cnd (R := fun c => (c = false ↔ BindOk r.fNat b)) ?_ fun c hc => ?_
 ·unfold BindOk
  refine Ok.call (ok84 _ _) fun x hx => ?_
  refine Ok.br (fun h1 => Ok.done ?_) (fun h1 => ?_)
  ·simp at h1; subst h1; simp at hx; simp [hx]
  simp at h1; subst h1; simp at hx
  refine Ok.br (fun h2 => Ok.done ?_) (fun h2 => ?_)
  ·simp at h2; simp [h2]
  simp at h2
  refine Ok.call (ok111 _ _ _) fun y hy => ?_
  refine Ok.br (fun h3 => Ok.done ?_) (fun h3 => ?_)
  ·simp at h3; subst h3; simp at hy; simp [hy]
  simp at h3; subst h3; simp at hy
  refine Ok.br (fun h4 => Ok.done ?_) (fun h4 => Ok.br (fun h5 => Ok.done ?_) (fun h5 => Ok.br (fun h6 => Ok.done ?_) (fun h6 => Ok.done ?_)))
  ·simp at h4 ⊢; intros; omega
  ·simp at h4 h5 ⊢; intros; omega
  ·simp at h4 h5 h6 ⊢; intros; omega
  ·simp at h4 h5 h6 ⊢; simp [hx, h2, hy]; omega
 ·refine Ok.br (fun h1 => Ok.done ?_) (fun h1 => ?_)
  ·have : ¬ BindOk r.fNat b := fun h => by rw [hc.2 h] at h1; simp at h1
   simp [this]
  ·have hb := hc.1 h1
   refine Ok.br (fun h2 => Ok.done ?_) (fun h2 => ?_)
   ·rw [mlen_eq]; simp at h2; simp [hb, OpenOk, h2]
   ·simp at h2
    refine Ok.cnd (R := fun c => (c = true ↔ OpenOk r.fNat b.fOpen)) ?_ fun d hd => Ok.done (by simp [hd, hb])
    unfold OpenOk
    rw [mlen_eq]
    refine Ok.br (fun h3 => Ok.br (fun h4 => ?_) (fun h4 => Ok.done ?_)) (fun h3 => Ok.done ?_)
    ·refine Ok.view (ok112 _ _ hl) fun d hd => Ok.done ?_
     simp at h3 h4
     rw [hd]
     constructor
     ·intro h; exact .inr ⟨h2, by omega, by omega, h⟩
     ·rintro (h | h)
      ·exact absurd h.1 h2
      ·exact h.2.2.2
    ·simp at h4 ⊢; constructor
     ·intro h; exact absurd h h2
     ·intros; omega
    ·simp at h3 ⊢; constructor
     ·intro h; exact absurd h h2
     ·intros; omega
theorem ok83 (a b : SBinding) : SOk (s83 a b) (fun c => (c = true ↔ Alike a b)) := by
 show Ok (g83 a b) _
 unfold g83 Alike
 refine Ok.cnd (R := fun c => (c = true ↔ a.fPort = b.fPort ∨ (a.fInside = b.fInside ∧ a.fPeer = b.fPeer))) ?_ fun c hc => Ok.done hc
 refine Ok.br (fun h1 => Ok.done ?_) (fun h1 => Ok.br (fun h2 => Ok.done ?_) (fun h2 => Ok.done ?_))
 ·simp at h1; simp [h1]
 ·simp at h1; rw [eA_iff] at h2; rw [eA_iff]; simp [h1, h2]
 ·simp at h1
  have : a.fInside ≠ b.fInside := fun e => by rw [(eA_iff (a := a.fInside) (b := b.fInside)).2 e] at h2; simp at h2
  simp [h1, this]
theorem ok110 (a b : SBinding) : SOk (s110 a b) (fun c => (c = true ↔ Alike b a)) := by
 show Ok (g110 a b) _
 unfold g110
 exact Ok.call (ok83 _ _) fun c hc => Ok.done hc
theorem ok115 (l : List SBinding) (x : SBinding) (hl : Small l) : SOk (s115 l x) (fun i => (0 ≤ i ↔ ∃ y, y ∈ l ∧ Alike x y)) := by
 show Ok (g115 l x) _
 unfold g115
 refine Ok.bind2 (R := fun e => match e with | .inl i => 0 ≤ i ∧ ∃ y, y ∈ l ∧ Alike x y | .inr _ => ¬ ∃ y, y ∈ l ∧ Alike x y) ?_ (fun e he => Ok.done ⟨fun _ => he.2, fun _ => he.1⟩) (fun e he => Ok.done ⟨fun h => by simp at h, fun h => absurd h he⟩)
 refine Ok.lp (fun i => 0 ≤ i ∧ i ≤ (l.length : Int) ∧ ∀ j, j < i.toNat → ∀ y, l[j]? = some y → ¬ Alike x y) (fun i => l.length - i.toNat) ⟨by simp, by simp, by simp⟩ (fuel (by simp; omega)) fun i hi => ?_
 obtain ⟨h0, h1, h2⟩ := hi
 refine Ok.br (fun hc => ?_) (fun hc => Ok.done ?_)
 ·rw [mlen_eq, decide_eq_true_eq] at hc
  obtain ⟨y, hy⟩ := at_of h0 hc
  refine Ok.row (by simpa using h0) hy ?_
  refine Ok.call (ok110 _ _) fun c hcc => ?_
  refine Ok.br (fun h3 => Ok.done ?_) (fun h3 => Ok.done ?_)
  ·exact ⟨h0, y, List.mem_of_getElem? hy, hcc.1 h3⟩
  ·rw [wi64_succ h0 hc hl]
   refine ⟨⟨by omega, by omega, ?_⟩, by simp only; omega⟩
   rw [toNat_succ h0]
   refine upto_succ h2 fun z hz => ?_
   rw [hy] at hz; simp only [Option.some.injEq] at hz; subst hz
   intro e
   rw [hcc.2 e] at h3; simp at h3
 ·rw [mlen_eq, decide_eq_false_iff_not] at hc
  rintro ⟨y, hm, ha⟩
  obtain ⟨j, hj⟩ := List.mem_iff_getElem?.1 hm
  exact h2 j (by have := (List.getElem?_eq_some_iff.1 hj).1; omega) y hj ha
theorem ok109 (l : List SBinding) (x : SBinding) (hl : Small l) : SOk (s109 l x) (fun c => (c = true ↔ ∃ y, y ∈ l ∧ Alike x y)) := by
 show Ok (g109 l x) _
 unfold g109
 exact Ok.call (ok115 l x hl) fun i hi => Ok.done (by simp [hi])
def At1 (n : SNat) (l : List SBinding) (i : Nat) (b : SBinding) : Prop :=
 BindOk n b ∧ OpenOk n b.fOpen ∧ ∀ j, j < i → ∀ y, l[j]? = some y → ¬ Alike b y
def AllB (n : SNat) (l : List SBinding) : Prop := ∀ (i : Nat) (b : SBinding), l[i]? = some b → At1 n l i b
def SmallN (l : List SBinding) : Prop := Small l ∧ ∀ b, b ∈ l → Small b.fOpen
theorem ok81 (l : List SBinding) (r : SRouter) (hl : SmallN l) : SOk (s81 l r) (fun c => (c = true ↔ AllB r.fNat l)) := by
 show Ok (g81 l r) _
 unfold g81
 refine Ok.bind2 (R := fun e => match e with | .inl _ => ¬ AllB r.fNat l | .inr _ => AllB r.fNat l) ?_ (fun e he => Ok.done ⟨fun h => by simp at h, fun h => absurd h he⟩) (fun e he => Ok.done ⟨fun _ => he, fun _ => rfl⟩)
 refine Ok.lp (fun i => 0 ≤ i ∧ i ≤ (l.length : Int) ∧ ∀ j, j < i.toNat → ∀ b, l[j]? = some b → At1 r.fNat l j b) (fun i => l.length - i.toNat) ⟨by simp, by simp, by simp⟩ (fuel (by have := hl.1; simp; omega)) fun i hi => ?_
 obtain ⟨h0, h1, h2⟩ := hi
 refine Ok.br (fun hc => ?_) (fun hc => Ok.done ?_)
 ·rw [mlen_eq, decide_eq_true_eq] at hc
  obtain ⟨y, hy⟩ := at_of h0 hc
  refine Ok.row (by simpa using h0) hy ?_
  refine Ok.cnd (R := fun c => (c = false ↔ At1 r.fNat l i.toNat y)) ?_ fun c hcc => ?_
  ·refine Ok.call (ok82 _ _ (hl.2 y (List.mem_of_getElem? hy))) fun c hcc => ?_
   refine Ok.br (fun h3 => Ok.done ?_) (fun h3 => ?_)
   ·have : ¬ (BindOk r.fNat y ∧ OpenOk r.fNat y.fOpen) := fun h => by rw [hcc.2 h] at h3; simp at h3
    exact ⟨fun h => by simp at h, fun h => absurd ⟨h.1, h.2.1⟩ this⟩
   ·refine Ok.chk (by rw [mlenn_eq]; simp; omega) (Ok.re (Ok.view (ok109 _ _ (by have := hl.1; simp; omega)) fun d hd => Ok.done ?_))
    have hk := hcc.1 (by simpa using h3)
    constructor
    ·intro e
     refine ⟨hk.1, hk.2, fun m hm z hz ha => ?_⟩
     rw [hd.2 ⟨z, mem_take_iff.2 ⟨m, hm, hz⟩, ha⟩] at e; simp at e
    ·intro e
     cases d with
     | false => rfl
     | true =>
      obtain ⟨z, hz, ha⟩ := hd.1 rfl
      obtain ⟨m, hm, hx⟩ := mem_take_iff.1 hz
      exact absurd ha (e.2.2 m hm z hx)
  ·refine Ok.br (fun h3 => Ok.done ?_) (fun h3 => Ok.done ?_)
   ·intro hall
    have := hcc.2 (hall i.toNat y hy)
    rw [this] at h3; simp at h3
   ·rw [wi64_succ h0 hc hl.1]
    refine ⟨⟨by omega, by omega, ?_⟩, by simp only; omega⟩
    rw [toNat_succ h0]
    refine upto_succ h2 fun a ha => ?_
    rw [hy] at ha; simp only [Option.some.injEq] at ha; subst ha
    exact hcc.1 h3
 ·rw [mlen_eq, decide_eq_false_iff_not] at hc
  refine fun (j : Nat) a hj => ?_
  exact h2 j (by have := (List.getElem?_eq_some_iff.1 hj).1; omega) a hj
theorem ok80 (k : Int) : SOk (s80 k) (fun c => (c = true ↔ 1 ≤ k ∧ k ≤ 3)) := by
 show Ok (g80 k) _
 unfold g80
 refine Ok.cnd (R := fun c => (c = true ↔ 1 ≤ k ∧ k ≤ 3)) ?_ fun c hc => Ok.done hc
 refine Ok.br (fun h1 => Ok.done ?_) (fun h1 => Ok.done ?_)
 ·simp at h1 ⊢; omega
 ·simp at h1 ⊢; omega
def Head (n : SNat) : Prop :=
 (1 ≤ n.fMapping ∧ n.fMapping ≤ 3) ∧ (1 ≤ n.fFilter ∧ n.fFilter ≤ 3) ∧ (1 ≤ n.fTimeout ∧ n.fTimeout ≤ 3600000) ∧ ((n.fHost.size : Int) = 4 ∨ (n.fHost.size : Int) = 16) ∧
 (1 ≤ n.fLow ∧ n.fHigh ≤ 65535 ∧ n.fLow ≤ n.fHigh ∧ n.fHigh < n.fLow + 64) ∧ (0 ≤ n.fNow ∧ n.fNow ≤ 1099511627776)
def Valid (n : SNat) : Prop := Head n ∧ AllB n n.fTable
theorem ok55 (r : SRouter) (hl : SmallN r.fNat.fTable) : SOk (s55 r) (fun c => (c = true ↔ Valid r.fNat)) := by
 show Ok (g55 r) _
 unfold g55 Valid Head
 refine Ok.cnd (R := fun c => (c = false ↔ (1 ≤ r.fNat.fMapping ∧ r.fNat.fMapping ≤ 3) ∧ (1 ≤ r.fNat.fFilter ∧ r.fNat.fFilter ≤ 3) ∧ (1 ≤ r.fNat.fTimeout ∧ r.fNat.fTimeout ≤ 3600000) ∧ ((r.fNat.fHost.size : Int) = 4 ∨ (r.fNat.fHost.size : Int) = 16))) ?_ fun c hc => ?_
 ·refine Ok.call (ok80 _) fun x hx => ?_
  refine Ok.br (fun h1 => Ok.done ?_) (fun h1 => ?_)
  ·simp at h1; subst h1; simp at hx ⊢; intros; omega
  simp at h1; subst h1; simp at hx
  refine Ok.call (ok80 _) fun y hy => ?_
  refine Ok.br (fun h2 => Ok.done ?_) (fun h2 => ?_)
  ·simp at h2; subst h2; simp at hy ⊢; intros; omega
  simp at h2; subst h2; simp at hy
  refine Ok.br (fun h3 => Ok.done ?_) (fun h3 => Ok.br (fun h4 => Ok.done ?_) (fun h4 => Ok.br (fun h5 => Ok.done ?_) (fun h5 => Ok.done ?_)))
  all_goals (simp at *; omega)
 ·refine Ok.br (fun h1 => Ok.done ?_) (fun h1 => ?_)
  ·subst h1; simp at hc ⊢; intros; omega
  have h2 := hc.1 h1
  refine Ok.cnd (R := fun c => (c = false ↔ (1 ≤ r.fNat.fLow ∧ r.fNat.fHigh ≤ 65535 ∧ r.fNat.fLow ≤ r.fNat.fHigh ∧ r.fNat.fHigh < r.fNat.fLow + 64) ∧ (0 ≤ r.fNat.fNow ∧ r.fNat.fNow ≤ 1099511627776))) ?_ fun d hd => ?_
  ·refine Ok.br (fun h3 => Ok.done ?_) (fun h3 => Ok.br (fun h4 => Ok.done ?_) (fun h4 => Ok.br (fun h5 => Ok.done ?_) (fun h5 => ?_)))
   ·simp at *; omega
   ·simp at *; omega
   ·simp at *; omega
   ·simp at h3 h4 h5
    rw [wi64_id (n := r.fNat.fLow + 64) (by omega) (by omega)]
    refine Ok.br (fun h6 => Ok.done ?_) (fun h6 => Ok.br (fun h7 => Ok.done ?_) (fun h7 => Ok.done ?_))
    all_goals (simp at *; omega)
  ·refine Ok.br (fun h3 => Ok.done ?_) (fun h3 => ?_)
   ·subst h3; simp at hd ⊢; intros; omega
   have h4 := hd.1 h3
   refine Ok.call (ok81 _ _ hl) fun e he => Ok.done ?_
   rw [he]
   exact ⟨fun h => ⟨⟨h2.1, h2.2.1, h2.2.2.1, h2.2.2.2, h4.1, h4.2⟩, h⟩, fun h => h.2⟩
end Go.Proofs.YtdiagiflihpidaaDoor
namespace Go.Proofs.YtdiagiflihpidaaDoor
open Go Go.EV
set_option maxRecDepth 100000
end Go.Proofs.YtdiagiflihpidaaDoor
namespace Go.Proofs.YtdiagiflihpidaaDoor
open Go Go.EV
set_option maxRecDepth 100000
def keep (now : Int) (l : List SBinding) : List SBinding := l.filter fun b => decide (now < b.fUntil)
theorem keep_succ {now : Int} {l : List SBinding} {i : Nat} {y : SBinding} (hy : l[i]? = some y) : keep now (l.take (i + 1)) = keep now (l.take i) ++ (if now < y.fUntil then [y] else []) := by
 unfold keep
 rw [List.take_add_one, hy, List.filter_append]
 simp only [Option.toList_some, List.filter_cons, List.filter_nil]
 by_cases h : now < y.fUntil <;> simp [h]
theorem keep_len (now : Int) (l : List SBinding) (i : Nat) : (keep now (l.take i)).length ≤ i := by
 unfold keep
 have := List.length_filter_le (fun b => decide (now < b.fUntil)) (l.take i)
 simp at this; omega
theorem take_all {α : Type} {l : List α} {i : Nat} (h : l.length ≤ i) : l.take i = l := List.take_of_length_le h
theorem ok64 (l : List SAddr) (hl : Small l) : SOk (s64 l) (fun _ => True) := by
 show Ok (g64 l) _
 unfold g64
 exact Ok.app (by simp; omega) (Ok.done trivial)
def Time (n : SNat) (now : Int) (l : List SAddr) : Prop := n.fNow ≤ now ∧ now ≤ 1099511627776 ∧ ∀ a, a ∈ l → Usable a (n.fHost.size : Int)
theorem mem_upto {l : List SAddr} {p : SAddr → Prop} {i : Int} (hc : ¬ i < (l.length : Int)) (h : ∀ j, j < i.toNat → ∀ a, l[j]? = some a → p a) : ∀ a, a ∈ l → p a := fun a ha => by
 obtain ⟨j, hj⟩ := List.mem_iff_getElem?.1 ha
 exact h j (by have := (List.getElem?_eq_some_iff.1 hj).1; omega) a hj
theorem ok19 (n : SNat) (hl : SmallN n.fTable) : SOk (s19 n) (fun r => (¬ Valid n ∧ r = 130) ∨ (Valid n ∧ r = 0)) := by
 show Ok (g19 n) _
 unfold g19
 refine Ok.view (ok55 ⟨n⟩ hl) fun v hv => ?_
 refine Ok.br (fun h1 => Ok.done ?_) (fun h1 => Ok.done ?_)
 ·simp at h1; subst h1; simp at hv; exact .inl ⟨hv, rfl⟩
 ·simp at h1; subst h1; simp at hv; exact .inr ⟨hv, rfl⟩
def StartQ (n : SNat) (now : Int) (l : List SAddr) (r : Int ⊕ List SBinding) : Prop :=
 (¬ Valid n ∧ r = .inl 130) ∨ (Valid n ∧ ¬ Time n now l ∧ r = .inl 2) ∨ (Valid n ∧ Time n now l ∧ r = .inr (keep now n.fTable))
theorem ok56_1 (n : SNat) (now : Int) (l : List SAddr) (hl : SmallN n.fTable) (hs : Small l) : SOk (s56_1 n now l) (StartQ n now l) := by
 have hl1 := hl.1
 show Ok (g56_1 n now l) _
 unfold g56_1 StartQ
 refine Ok.view (ok55 ⟨n⟩ hl) fun v hv => ?_
 refine Ok.br (fun h1 => Ok.done ?_) (fun h1 => ?_)
 ·simp at h1; subst h1; simp at hv; exact .inl ⟨hv, rfl⟩
 simp at h1; subst h1; simp at hv
 refine Ok.cnd (R := fun c => (c = false ↔ n.fNow ≤ now ∧ now ≤ 1099511627776)) ?_ fun c hc => ?_
 ·refine Ok.br (fun h2 => Ok.done ?_) (fun h2 => Ok.done ?_)
  ·simp at h2 ⊢; omega
  ·simp at h2 ⊢; omega
 refine Ok.br (fun h2 => Ok.done ?_) (fun h2 => ?_)
 ·refine .inr (.inl ⟨hv, fun ht => ?_, rfl⟩)
  rw [hc.2 ⟨ht.1, ht.2.1⟩] at h2; simp at h2
 have ht := hc.1 h2
 refine Ok.bind2 (R := fun e => match e with | .inl _ => ¬ ∀ a, a ∈ l → Usable a (n.fHost.size : Int) | .inr _ => ∀ a, a ∈ l → Usable a (n.fHost.size : Int)) ?_ (fun e he => Ok.done ?_) (fun e he => ?_)
 ·refine Ok.lp (fun i => 0 ≤ i ∧ i ≤ (l.length : Int) ∧ ∀ j, j < i.toNat → ∀ a, l[j]? = some a → Usable a (n.fHost.size : Int)) (fun i => l.length - i.toNat) ⟨by simp, by simp, by simp⟩ (fuel (by simp; omega)) fun i hi => ?_
  obtain ⟨h0, h1, h3⟩ := hi
  refine Ok.br (fun hc => ?_) (fun hc => Ok.done ?_)
  ·rw [decide_eq_true_eq] at hc
   obtain ⟨y, hy⟩ := at_of h0 hc
   refine Ok.chk (by simp; omega) (Ok.row rfl (by rw [Nat.zero_add]; exact hy) ?_)
   refine Ok.view (ok84 ⟨n⟩ _) fun c hcc => ?_
   refine Ok.br (fun h4 => Ok.done ?_) (fun h4 => Ok.done ?_)
   ·simp at h4; subst h4; simp at hcc
    intro hall; exact hcc (hall y (List.mem_of_getElem? hy))
   ·simp at h4; subst h4; simp at hcc
    rw [wi64_succ h0 hc hs]
    refine ⟨⟨by omega, by omega, ?_⟩, by simp only; omega⟩
    rw [toNat_succ h0]
    refine upto_succ h3 fun a ha => ?_
    rw [hy] at ha; simp only [Option.some.injEq] at ha; subst ha; exact hcc
  ·rw [decide_eq_false_iff_not] at hc
   exact mem_upto hc h3
 ·exact .inr (.inl ⟨hv, fun h => he h.2.2, rfl⟩)
 ·refine Ok.gh (Ok.bind (R := fun e => e = keep now n.fTable) ?_ fun e hk => Ok.done (.inr (.inr ⟨hv, ⟨ht.1, ht.2, he⟩, by rw [hk]⟩)))
  refine Ok.lp (fun t => ∃ i : Int, t = (keep now (n.fTable.take i.toNat), i) ∧ 0 ≤ i ∧ i ≤ (n.fTable.length : Int)) (fun t => n.fTable.length - t.2.toNat) ⟨0, by simp [keep], by simp, by simp⟩ (fuel (by simp; omega)) fun t hi => ?_
  obtain ⟨i, rfl, h0, h1⟩ := hi
  refine Ok.br (fun hc => ?_) (fun hc => Ok.done ?_)
  ·rw [mlen_eq, decide_eq_true_eq] at hc
   simp only at hc
   obtain ⟨y, hy⟩ := at_of h0 hc
   refine Ok.row (by simpa using h0) hy ?_
   refine Ok.br (fun h4 => ?_) (fun h4 => Ok.done ?_)
   ·refine Ok.call (ok64 _ (hl.2 y (List.mem_of_getElem? hy))) fun _ _ => ?_
    refine Ok.appn ?_ (Ok.gh (Ok.gh (Ok.done ?_)))
    ·have := keep_len now n.fTable i.toNat
     simp only; omega
    ·simp only
     rw [wi64_succ h0 hc hl1]
     refine ⟨⟨i + 1, ?_, by omega, by omega⟩, by simp only; omega⟩
     rw [toNat_succ h0, keep_succ hy, if_pos (by simpa using h4)]
   ·simp only
    rw [wi64_succ h0 hc hl1]
    refine ⟨⟨i + 1, ?_, by omega, by omega⟩, by simp only; omega⟩
    rw [toNat_succ h0, keep_succ hy, if_neg (by simpa using h4)]; simp
  ·rw [mlen_eq, decide_eq_false_iff_not] at hc
   simp only at hc
   show keep now (n.fTable.take i.toNat) = _
   rw [take_all (by omega)]
def nat0 : SNat := ⟨0, 0, 0, false, ByteArray.empty, 0, 0, 0, []⟩
def atT (n : SNat) (now : Int) : SNat := ⟨n.fMapping, n.fFilter, n.fTimeout, n.fHairpin, n.fHost, n.fLow, n.fHigh, now, keep now n.fTable⟩
end Go.Proofs.YtdiagiflihpidaaDoor
namespace Go.Proofs.YtdiagiflihpidaaDoor
open Go Go.EV
set_option maxRecDepth 100000
def Bd (m k : Nat) (l : List SBinding) : Prop := l.length ≤ m ∧ ∀ b, b ∈ l → b.fOpen.length ≤ k
end Go.Proofs.YtdiagiflihpidaaDoor
namespace Go.Proofs.YtdiagiflihpidaaDoor
open Go Go.EV
set_option maxRecDepth 100000
theorem smallN_keep {n : SNat} (hl : SmallN n.fTable) (now : Int) : SmallN (atT n now).fTable :=
 ⟨Nat.le_trans (List.length_filter_le _ _) hl.1, fun b hb => hl.2 b (List.mem_filter.1 hb).1⟩
end Go.Proofs.YtdiagiflihpidaaDoor
namespace Go.Proofs.YtdiagiflihpidaaDoor
open Go Go.EV
set_option maxRecDepth 100000
def addr0 : SAddr := ⟨ByteArray.empty, 0⟩
def keyOf (k : Int) (a : SAddr) : SAddr := if k = 1 then ⟨ByteArray.empty, 0⟩ else if k = 2 then ⟨a.fHost, 0⟩ else a
def Lets (n : SNat) (b : SBinding) (a : SAddr) : Prop := n.fFilter = 1 ∨ keyOf n.fFilter a ∈ b.fOpen
def InQ (n : SNat) (now : Int) (a b : SAddr) (r : SNat × SAddr × Int) : Prop :=
 (¬ Valid n ∧ r = (nat0, addr0, 130)) ∨ (Valid n ∧ ¬ (Time n now [a, b] ∧ b.fHost = n.fHost) ∧ r = (nat0, addr0, 2)) ∨
 (Valid n ∧ (Time n now [a, b] ∧ b.fHost = n.fHost) ∧ ((∃ x, x ∈ keep now n.fTable ∧ x.fPort = b.fPort ∧ Lets n x a ∧ r = (atT n now, x.fInside, 0)) ∨ ((∀ x, x ∈ keep now n.fTable → x.fPort = b.fPort → ¬ Lets n x a) ∧ r = (nat0, addr0, 4))))
theorem uniq_of {n : SNat} {l : List SBinding} (h : AllB n l) {b b' : SBinding} (hb : b ∈ l) (hb' : b' ∈ l) (hp : b.fPort = b'.fPort) : b = b' := by
 obtain ⟨i, hi⟩ := List.mem_iff_getElem?.1 hb
 obtain ⟨j, hj⟩ := List.mem_iff_getElem?.1 hb'
 rcases Nat.lt_trichotomy i j with h1 | h1 | h1
 ·exact absurd (.inl hp.symm) ((h j b' hj).2.2 i h1 b hi)
 ·subst h1; rw [hi] at hj; exact Option.some.inj hj
 ·exact absurd (.inl hp) ((h i b hi).2.2 j h1 b' hj)
theorem keep_mem {now : Int} {l : List SBinding} {b : SBinding} (h : b ∈ keep now l) : b ∈ l := (List.mem_filter.1 h).1
theorem ok117 (l : List SAddr) (x : SAddr) (hl : Small l) : SOk (s117 l x) (fun i => (0 ≤ i ↔ x ∈ l)) := by
 show Ok (g117 l x) _
 unfold g117
 refine Ok.bind2 (R := fun e => match e with | .inl i => 0 ≤ i ∧ x ∈ l | .inr _ => ¬ x ∈ l) ?_ (fun e he => Ok.done ⟨fun _ => he.2, fun _ => he.1⟩) (fun e he => Ok.done ⟨fun h => by simp at h, fun h => absurd h he⟩)
 refine Ok.lp (fun i => 0 ≤ i ∧ i ≤ (l.length : Int) ∧ ∀ j, j < i.toNat → l[j]? ≠ some x) (fun i => l.length - i.toNat) ⟨by simp, by simp, by simp⟩ (fuel (by simp; omega)) fun i hi => ?_
 obtain ⟨h0, h1, h2⟩ := hi
 refine Ok.br (fun hc => ?_) (fun hc => Ok.done ?_)
 ·rw [mlen_eq, decide_eq_true_eq] at hc
  obtain ⟨y, hy⟩ := at_of h0 hc
  refine Ok.row (by simpa using h0) hy (Ok.br (fun h3 => Ok.done ?_) (fun h3 => Ok.done ?_))
  ·rw [eA_iff] at h3; subst h3
   exact ⟨h0, List.mem_of_getElem? hy⟩
  ·rw [wi64_succ h0 hc hl]
   refine ⟨⟨by omega, by omega, ?_⟩, by simp only; omega⟩
   rw [toNat_succ h0]
   refine upto_succ h2 ?_
   rw [hy]; intro e
   simp only [Option.some.injEq] at e
   rw [(eA_iff (a := x) (b := y)).2 e.symm] at h3; simp at h3
 ·rw [mlen_eq, decide_eq_false_iff_not] at hc
  intro hm
  obtain ⟨j, hj⟩ := List.mem_iff_getElem?.1 hm
  exact h2 j (by have := (List.getElem?_eq_some_iff.1 hj).1; omega) hj
theorem ok88 (l : List SAddr) (x : SAddr) (hl : Small l) : SOk (s88 l x) (fun c => (c = true ↔ x ∈ l)) := by
 show Ok (g88 l x) _
 unfold g88
 exact Ok.call (ok117 l x hl) fun i hi => Ok.done (by simp [hi])
def FindQ (l : List SBinding) (p : SBinding → Prop) (i : Int) : Prop := (0 ≤ i ∧ ∃ x, l[i.toNat]? = some x ∧ p x) ∨ (i < 0 ∧ ∀ b, b ∈ l → ¬ p b)
theorem ok115_2 (l : List SBinding) (a : SAddr) (hl : Small l) : SOk (s115_2 l a) (FindQ l fun b => b.fPort = a.fPort) := by
 show Ok (g115_2 l a) _
 unfold g115_2
 refine Ok.bind2 (R := fun e => match e with | .inl i => 0 ≤ i ∧ ∃ x, l[i.toNat]? = some x ∧ x.fPort = a.fPort | .inr _ => ∀ b, b ∈ l → ¬ b.fPort = a.fPort) ?_ (fun e he => Ok.done (.inl he)) (fun e he => Ok.done (.inr ⟨by omega, he⟩))
 refine Ok.lp (fun i => 0 ≤ i ∧ i ≤ (l.length : Int) ∧ ∀ j, j < i.toNat → ∀ b, l[j]? = some b → ¬ b.fPort = a.fPort) (fun i => l.length - i.toNat) ⟨by simp, by simp, by simp⟩ (fuel (by simp; omega)) fun i hi => ?_
 obtain ⟨h0, h1, h2⟩ := hi
 refine Ok.br (fun hc => ?_) (fun hc => Ok.done ?_)
 ·rw [mlen_eq, decide_eq_true_eq] at hc
  obtain ⟨y, hy⟩ := at_of h0 hc
  refine Ok.row (by simpa using h0) hy (Ok.call (R := fun c => (c = true ↔ y.fPort = a.fPort)) (Ok.done (by simp) : Ok (g90 y a) _) fun c hcc => ?_)
  refine Ok.br (fun h3 => Ok.done ?_) (fun h3 => Ok.done ?_)
  ·exact ⟨h0, y, hy, hcc.1 h3⟩
  ·rw [wi64_succ h0 hc hl]
   refine ⟨⟨by omega, by omega, ?_⟩, by simp only; omega⟩
   rw [toNat_succ h0]
   refine upto_succ h2 fun b hb => ?_
   rw [hy] at hb; simp only [Option.some.injEq] at hb; subst hb
   intro e; rw [hcc.2 e] at h3; simp at h3
 ·rw [mlen_eq, decide_eq_false_iff_not] at hc
  intro b hb
  obtain ⟨j, hj⟩ := List.mem_iff_getElem?.1 hb
  exact h2 j (by have := (List.getElem?_eq_some_iff.1 hj).1; omega) b hj
theorem ok146 (a : SAddr) : SOk (s146 a) (fun y => y = keyOf 1 a) := by
 show Ok (g146 a) _
 unfold g146
 exact Ok.done rfl
theorem ok147 (a : SAddr) : SOk (s147 a) (fun y => y = keyOf 2 a) := by
 show Ok (g147 a) _
 unfold g147
 exact Ok.done rfl
theorem ok148 (a : SAddr) : SOk (s148 a) (fun y => y = keyOf 3 a) := by
 show Ok (g148 a) _
 unfold g148
 exact Ok.done rfl
theorem ok62_1 (r : SRouter) (a b : SAddr) (hf : 1 ≤ r.fNat.fFilter ∧ r.fNat.fFilter ≤ 3) (hl : SmallN r.fNat.fTable) (hu : ∀ x y, x ∈ r.fNat.fTable → y ∈ r.fNat.fTable → x.fPort = y.fPort → x = y) :
  SOk (s62_1 r a b) (fun q => (∃ x, x ∈ r.fNat.fTable ∧ x.fPort = b.fPort ∧ Lets r.fNat x a ∧ q = (x.fInside, 0)) ∨ ((∀ x, x ∈ r.fNat.fTable → x.fPort = b.fPort → ¬ Lets r.fNat x a) ∧ q = (addr0, 4))) := by
 show Ok (g62_1 r a b) _
 unfold g62_1
 refine Ok.view (R := FindQ r.fNat.fTable fun x => x.fPort = b.fPort) (Ok.call (ok115_2 _ _ hl.1) fun i hi => Ok.done hi : Ok (g85_2 r b) _) fun i hi => ?_
 rcases hi with ⟨h0, x, hx, hp⟩ | ⟨h0, hnone⟩
 ·have hxm := List.mem_of_getElem? hx
  refine Ok.cnd (R := fun c => (c = false ↔ Lets r.fNat x a)) ?_ fun c hc => ?_
  ·refine Ok.br (fun h => by simp at h; omega) (fun _ => Ok.br (fun h => ?_) (fun h => Ok.done ?_))
   ·simp at h
    refine Ok.row (by simpa using h0) hx ?_
    have h23 : r.fNat.fFilter = 2 ∨ r.fNat.fFilter = 3 := by omega
    rcases h23 with h2 | h2
    ·refine Ok.ceq (by rw [h2]; rfl) ?_
     rw [h2]
     simp only [show ((2 : Int) == 0) = false from rfl, show ((2 : Int) == 1) = false from rfl, show ((2 : Int) == 2) = true from rfl, cond_false, cond_true]
     refine Ok.call (ok147 a) fun y hy => Ok.call (ok88 _ _ (hl.2 x hxm)) fun c hc => Ok.done ?_
     rw [hy] at hc
     simp only [Lets, h2]
     cases c <;> simp_all
    ·refine Ok.ceq (by rw [h2]; rfl) ?_
     rw [h2]
     simp only [show ((3 : Int) == 0) = false from rfl, show ((3 : Int) == 1) = false from rfl, show ((3 : Int) == 2) = false from rfl, show ((3 : Int) == 3) = true from rfl, cond_false, cond_true]
     refine Ok.call (ok148 a) fun y hy => Ok.call (ok88 _ _ (hl.2 x hxm)) fun c hc => Ok.done ?_
     rw [hy] at hc
     simp only [Lets, h2]
     cases c <;> simp_all
   ·simp at h; simp [Lets, h]
  ·refine Ok.br (fun h => Ok.done (.inr ⟨fun y hy hyp => ?_, rfl⟩)) (fun h => Ok.row (by simpa using h0) hx (Ok.done (.inl ⟨x, hxm, hp, hc.1 h, rfl⟩)))
   have : y = x := hu y x hy hxm (by rw [hyp, hp])
   subst this
   intro hlets
   rw [hc.2 hlets] at h; simp at h
 ·refine Ok.cnd (R := fun c => c = true) (Ok.br (fun _ => Ok.done rfl) (fun h => by simp at h; omega)) fun c hc => ?_
  refine Ok.br (fun _ => Ok.done (.inr ⟨fun y hy hyp => absurd hyp (hnone y hy), rfl⟩)) (fun h => by rw [hc] at h; simp at h)
theorem ok27 (n : SNat) (now : Int) (a b : SAddr) (hl : SmallN n.fTable) : SOk (s27 n now a b) (InQ n now a b) := by
 show Ok (g27 n now a b) _
 unfold g27 InQ
 refine Ok.call2 (ok56_1 n now [a, b] hl (by simp)) (fun e he => ?_) (fun t ht => ?_)
 ·have he' : (e = 130 ∧ ¬ Valid n) ∨ (e = 2 ∧ Valid n ∧ ¬ Time n now [a, b]) := by
   rcases he with ⟨h1, h2⟩ | ⟨h1, h2, h3⟩ | ⟨_, _, h3⟩
   ·simp at h2; exact .inl ⟨h2, h1⟩
   ·simp at h3; exact .inr ⟨h3, h1, h2⟩
   ·simp at h3
  have hne : e ≠ 0 := by rcases he' with h | h <;> omega
  refine Ok.cnd (R := fun c => c = false) ?_ fun c hc => ?_
  ·refine Ok.br (fun h => absurd (by simpa using h) hne) (fun _ => Ok.done rfl)
  ·refine Ok.bind (R := fun x => x = e) (Ok.br (fun h => by rw [hc] at h; simp at h) (fun _ => Ok.done rfl)) fun x hx => ?_
   subst hx
   refine Ok.br (fun _ => Ok.done ?_) (fun h => absurd (by simpa using h) hne)
   rcases he' with ⟨rfl, h1⟩ | ⟨rfl, h1, h2⟩
   ·exact .inl ⟨h1, rfl⟩
   ·exact .inr (.inl ⟨h1, fun h => h2 h.1, rfl⟩)
 ·rcases ht with ⟨_, h2⟩ | ⟨_, _, h3⟩ | ⟨hv, htm, h3⟩
  ·simp at h2
  ·simp at h3
  simp at h3; subst h3
  refine Ok.bind (R := fun x => x = if b.fHost = n.fHost then 0 else 2) ?_ fun x hx => ?_
  ·refine Ok.br (fun h => Ok.done ?_) (fun h => Ok.done ?_)
   ·simp at h; simp [h]
   ·simp at h; simp [h]
  ·refine Ok.br (fun h => Ok.done ?_) (fun h => ?_)
   ·by_cases hh : b.fHost = n.fHost
    ·rw [if_pos hh] at hx; subst hx; simp at h
    ·rw [if_neg hh] at hx; subst hx
     exact .inr (.inl ⟨hv, fun h => hh h.2, rfl⟩)
   ·have hh : b.fHost = n.fHost := by
     by_cases hh : b.fHost = n.fHost
     ·exact hh
     ·rw [if_neg hh] at hx; subst hx; simp at h
    refine Ok.view (ok62_1 ⟨atT n now⟩ a b hv.1.2.1 (smallN_keep hl now) (fun x y hx hy hp => uniq_of hv.2 (keep_mem hx) (keep_mem hy) hp)) fun q hq => ?_
    rcases hq with ⟨x, x1, x2, x3, rfl⟩ | ⟨x1, rfl⟩
    ·refine Ok.br (fun h => by simp at h) (fun _ => Ok.gh (Ok.done (.inr (.inr ⟨hv, ⟨htm, hh⟩, .inl ⟨x, x1, x2, x3, rfl⟩⟩))))
    ·refine Ok.br (fun _ => Ok.done (.inr (.inr ⟨hv, ⟨htm, hh⟩, .inr ⟨x1, rfl⟩⟩))) (fun h => by simp at h)
end Go.Proofs.YtdiagiflihpidaaDoor
namespace Go.Proofs.YtdiagiflihpidaaDoor
open Go Go.EV
set_option maxRecDepth 100000
def Ports (n : SNat) : Prop := 1 ≤ n.fLow ∧ n.fHigh ≤ 65535 ∧ n.fLow ≤ n.fHigh ∧ n.fHigh < n.fLow + 64
def first (n : SNat) (own : Int) : Int := if n.fLow ≤ own ∧ own ≤ n.fHigh then own else n.fLow
def portAt (n : SNat) (own k : Int) : Int := if first n own + k ≤ n.fHigh then first n own + k else first n own + k - (n.fHigh - n.fLow + 1)
def Taken (l : List SBinding) (p : Int) : Prop := ∃ b, b ∈ l ∧ b.fPort = p
def FreeQ (n : SNat) (own : Int) (r : Option Int) : Prop :=
 (∃ k : Int, 0 ≤ k ∧ k ≤ n.fHigh - n.fLow ∧ r = some (portAt n own k) ∧ ¬ Taken n.fTable (portAt n own k) ∧ ∀ j, 0 ≤ j → j < k → Taken n.fTable (portAt n own j)) ∨
 (r = none ∧ ∀ j, 0 ≤ j → j ≤ n.fHigh - n.fLow → Taken n.fTable (portAt n own j))
theorem first_in {n : SNat} (h : Ports n) (own : Int) : n.fLow ≤ first n own ∧ first n own ≤ n.fHigh := by
 unfold first
 obtain ⟨_, _, h3, _⟩ := h
 split <;> omega
theorem port_in {n : SNat} (h : Ports n) {own k : Int} (h0 : 0 ≤ k) (hk : k ≤ n.fHigh - n.fLow) : n.fLow ≤ portAt n own k ∧ portAt n own k ≤ n.fHigh := by
 have := first_in h own
 unfold portAt
 split <;> omega
theorem port_next {n : SNat} (h : Ports n) {own k : Int} (_ : 0 ≤ k) (hk : k ≤ n.fHigh - n.fLow) : (if n.fHigh < portAt n own k + 1 then n.fLow else portAt n own k + 1) = portAt n own (k + 1) := by
 have := first_in h own
 unfold portAt
 split <;> split <;> split <;> omega
theorem okRound (n : SNat) (p : Int) (hl : Small n.fTable) : Ok (gRound n p) (fun c => (c = true ↔ Taken n.fTable p)) := by
 unfold gRound
 refine Ok.bind2 (R := fun e => match e with | .inl _ => ∃ b, b ∈ n.fTable ∧ b.fPort = p | .inr _ => ¬ ∃ b, b ∈ n.fTable ∧ b.fPort = p) ?_ (fun e he => Ok.done ⟨fun _ => he, fun _ => rfl⟩) (fun e he => Ok.done ⟨fun h => by simp at h, fun h => absurd h he⟩)
 refine Ok.lp (fun i => 0 ≤ i ∧ i ≤ (n.fTable.length : Int) ∧ ∀ j, j < i.toNat → ∀ b, n.fTable[j]? = some b → b.fPort ≠ p) (fun i => n.fTable.length - i.toNat) ⟨by simp, by simp, by simp⟩ (fuel (by simp; omega)) fun i hi => ?_
 obtain ⟨h0, h1, h2⟩ := hi
 refine Ok.br (fun hc => ?_) (fun hc => Ok.done ?_)
 ·rw [mlen_eq, decide_eq_true_eq] at hc
  obtain ⟨y, hy⟩ := at_of h0 hc
  refine Ok.row (by simpa using h0) hy (Ok.br (fun h3 => Ok.done ?_) (fun h3 => Ok.done ?_))
  ·exact ⟨y, List.mem_of_getElem? hy, by simpa using h3⟩
  ·rw [wi64_succ h0 hc hl]
   refine ⟨⟨by omega, by omega, ?_⟩, by simp only; omega⟩
   rw [toNat_succ h0]
   refine upto_succ h2 fun b hb => ?_
   rw [hy] at hb; simp only [Option.some.injEq] at hb; subst hb; simpa using h3
 ·rw [mlen_eq, decide_eq_false_iff_not] at hc
  rintro ⟨b, hb, hp⟩
  obtain ⟨j, hj⟩ := List.mem_iff_getElem?.1 hb
  exact h2 j (by have := (List.getElem?_eq_some_iff.1 hj).1; omega) b hj hp
theorem ok87 (r : SRouter) (own : Int) (hl : Small r.fNat.fTable) (hd : Ports r.fNat) : SOk (s87 r own) (FreeQ r.fNat own) := by
 obtain ⟨n⟩ := r
 simp only at hl hd
 have hdd := hd
 obtain ⟨d1, d2, d3, d4⟩ := hd
 have hf := first_in hdd own
 show ∃ o, freeM n own = some o ∧ FreeQ n own o
 have h0 : Ok (gI0 n own) (fun c => c = portAt n own 0) := by
  unfold gI0
  have hp : portAt n own 0 = first n own := by unfold portAt; split <;> omega
  rw [hp]
  refine Ok.cnd (R := fun c => (c = true ↔ ¬ (n.fLow ≤ own ∧ own ≤ n.fHigh))) ?_ fun c hc => ?_
  ·refine Ok.br (fun h => Ok.done ?_) (fun h => Ok.done ?_)
   ·simp at h ⊢; intro; omega
   ·simp at h ⊢; omega
  ·refine Ok.br (fun h => Ok.done ?_) (fun h => Ok.done ?_)
   ·unfold first; rw [if_neg (hc.1 h)]
   ·unfold first; rw [if_pos (Classical.byContradiction fun h2 => by rw [hc.2 h2] at h; simp at h)]
 obtain ⟨c, hc, rfl⟩ := h0
 unfold freeM
 rw [hc]
 have hs : itSize n = n.fHigh - n.fLow + 1 := by
  unfold itSize
  rw [wi64_id (n := n.fHigh - n.fLow) (by omega) (by omega), wi64_id (by omega) (by omega)]
 refine iter_inv (fun y => (0 ≤ y.2 ∧ y.2 ≤ n.fHigh - n.fLow + 1) ∧ y.1 = portAt n own y.2 ∧ ∀ j, 0 ≤ j → j < y.2 → Taken n.fTable (portAt n own j)) (fun y => 64 - y.2.toNat) (FreeQ n own) (fun y hy => ?_) FUEL _ ⟨⟨by simp, by simp; omega⟩, rfl, fun j j0 j1 => by simp only at j1; omega⟩ (fuel (by simp))
 obtain ⟨cur, k⟩ := y
 obtain ⟨⟨k0, k1⟩, hcur, k2⟩ := hy
 simp only at k0 k1 hcur k2
 subst hcur
 unfold itStep
 rw [hs]
 by_cases hk : k < n.fHigh - n.fLow + 1
 ·obtain ⟨t, ht, htt⟩ := okRound n (portAt n own k) hl
  simp only [decide_eq_true hk, cond_true, ht]
  cases t with
  | true =>
   have hpi := port_in hdd (own := own) k0 (by omega)
   have h5 : Ok (gI5 n (portAt n own k)) (fun c => c = portAt n own (k + 1)) := by
    unfold gI5
    rw [wi64_id (n := portAt n own k + 1) (by omega) (by omega), ← port_next hdd k0 (by omega)]
    refine Ok.br (fun h => Ok.done ?_) (fun h => Ok.done ?_)
    ·rw [if_pos (by simpa using h)]
    ·rw [if_neg (by simpa using h)]
   obtain ⟨c2, hc2, rfl⟩ := h5
   simp only [cond_true, hc2]
   refine ⟨_, rfl, ?_⟩
   rw [wi64_id (n := k + 1) (by omega) (by omega)]
   refine ⟨⟨⟨by simp only; omega, by simp only; omega⟩, rfl, fun j j0 j1 => ?_⟩, by simp only; omega⟩
   simp only at j1
   rcases Int.lt_or_le j k with h | h
   ·exact k2 j j0 h
   ·have : j = k := by omega
    subst this; exact htt.1 rfl
  | false =>
   simp only [cond_false]
   exact ⟨_, rfl, .inl ⟨k, k0, by omega, rfl, fun h => by simpa using htt.2 h, k2⟩⟩
 ·simp only [decide_eq_false hk, cond_false]
  exact ⟨_, rfl, .inr ⟨rfl, fun j j0 j1 => k2 j j0 (by omega)⟩⟩
theorem ok86 (x : SBinding) (a p : SAddr) : SOk (s86 x a p) (fun c => (c = true ↔ x.fInside = a ∧ x.fPeer = p)) := by
 show Ok (g86 x a p) _
 unfold g86
 refine Ok.cnd (R := fun c => (c = true ↔ x.fInside = a ∧ x.fPeer = p)) ?_ fun c hc => Ok.done hc
 refine Ok.br (fun h => Ok.done ?_) (fun h => Ok.done ?_)
 ·rw [eA_iff] at h; rw [eA_iff]; simp [h]
 ·constructor
  ·intro h2; simp at h2
  ·intro h2; rw [eA_iff.2 h2.1] at h; simp at h
theorem ok115_1 (l : List SBinding) (a p : SAddr) (hl : Small l) : SOk (s115_1 l a p) (FindQ l fun x => x.fInside = a ∧ x.fPeer = p) := by
 show Ok (g115_1 l a p) _
 unfold g115_1
 refine Ok.bind2 (R := fun e => match e with | .inl i => 0 ≤ i ∧ ∃ x, l[i.toNat]? = some x ∧ x.fInside = a ∧ x.fPeer = p | .inr _ => ∀ b, b ∈ l → ¬ (b.fInside = a ∧ b.fPeer = p)) ?_ (fun e he => Ok.done (.inl he)) (fun e he => Ok.done (.inr ⟨by omega, he⟩))
 refine Ok.lp (fun i => 0 ≤ i ∧ i ≤ (l.length : Int) ∧ ∀ j, j < i.toNat → ∀ b, l[j]? = some b → ¬ (b.fInside = a ∧ b.fPeer = p)) (fun i => l.length - i.toNat) ⟨by simp, by simp, by simp⟩ (fuel (by simp; omega)) fun i hi => ?_
 obtain ⟨h0, h1, h2⟩ := hi
 refine Ok.br (fun hc => ?_) (fun hc => Ok.done ?_)
 ·rw [mlen_eq, decide_eq_true_eq] at hc
  obtain ⟨y, hy⟩ := at_of h0 hc
  refine Ok.row (by simpa using h0) hy (Ok.call (ok86 _ _ _) fun c hcc => ?_)
  refine Ok.br (fun h3 => Ok.done ?_) (fun h3 => Ok.done ?_)
  ·exact ⟨h0, y, hy, hcc.1 h3⟩
  ·rw [wi64_succ h0 hc hl]
   refine ⟨⟨by omega, by omega, ?_⟩, by simp only; omega⟩
   rw [toNat_succ h0]
   refine upto_succ h2 fun b hb => ?_
   rw [hy] at hb; simp only [Option.some.injEq] at hb; subst hb
   intro e; rw [hcc.2 e] at h3; simp at h3
 ·rw [mlen_eq, decide_eq_false_iff_not] at hc
  intro b hb
  obtain ⟨j, hj⟩ := List.mem_iff_getElem?.1 hb
  exact h2 j (by have := (List.getElem?_eq_some_iff.1 hj).1; omega) b hj
theorem ok85 (r : SRouter) (a p : SAddr) (hl : Small r.fNat.fTable) : SOk (s85 r a p) (FindQ r.fNat.fTable fun x => x.fInside = a ∧ x.fPeer = p) := by
 show Ok (g85 r a p) _
 unfold g85
 exact Ok.call (ok115_1 _ _ _ hl) fun i hi => Ok.done hi
open Classical in
noncomputable def newOpen (n : SNat) (b : SAddr) (o : List SAddr) : List SAddr :=
 if n.fFilter = 1 ∨ keyOf n.fFilter b ∈ o then o else (o ++ [keyOf n.fFilter b]).drop (o.length + 1 - 16)
noncomputable def upd (n : SNat) (b : SAddr) (x : SBinding) : SBinding := ⟨x.fInside, x.fPeer, x.fPort, wi64 (n.fNow + n.fTimeout), newOpen n b x.fOpen⟩
def Base (n : SNat) (a b : SAddr) (t : List SBinding) (j : Nat) (x : SBinding) : Prop :=
 (t = n.fTable ∧ n.fTable[j]? = some x ∧ x.fInside = a ∧ x.fPeer = keyOf n.fMapping b) ∨
 ((∀ y, y ∈ n.fTable → ¬ (y.fInside = a ∧ y.fPeer = keyOf n.fMapping b)) ∧ ∃ p, FreeQ n a.fPort (some p) ∧ x = ⟨a, keyOf n.fMapping b, p, 0, []⟩ ∧ t = n.fTable ++ [x] ∧ j = n.fTable.length)
def NoBase (n : SNat) (a b : SAddr) : Prop := (∀ y, y ∈ n.fTable → ¬ (y.fInside = a ∧ y.fPeer = keyOf n.fMapping b)) ∧ FreeQ n a.fPort none
theorem Base.at {n : SNat} {a b : SAddr} {t : List SBinding} {j : Nat} {x : SBinding} (h : Base n a b t j x) : t[j]? = some x := by
 rcases h with ⟨rfl, h, _⟩ | ⟨_, p, _, _, rfl, rfl⟩
 ·exact h
 ·simp
theorem Base.len {n : SNat} {a b : SAddr} {t : List SBinding} {j : Nat} {x : SBinding} (h : Base n a b t j x) : t.length ≤ n.fTable.length + 1 := by
 rcases h with ⟨rfl, _⟩ | ⟨_, p, _, _, rfl, rfl⟩
 ·omega
 ·simp
theorem Base.mem {n : SNat} {a b : SAddr} {t : List SBinding} {j : Nat} {x : SBinding} (h : Base n a b t j x) : ∀ y, y ∈ t → y ∈ n.fTable ∨ y.fOpen = [] := by
 rcases h with ⟨rfl, _⟩ | ⟨_, p, _, rfl, rfl, rfl⟩
 ·exact fun y hy => .inl hy
 ·intro y hy
  rcases List.mem_append.1 hy with hy | hy
  ·exact .inl hy
  ·rw [List.mem_singleton.1 hy]; exact .inr rfl
def Apart (l : List SBinding) : Prop := l.Pairwise fun y b => ¬ Alike b y
theorem apart_of_all {n : SNat} {l : List SBinding} (h : AllB n l) : Apart l := by
 refine List.pairwise_iff_getElem.2 fun i j hi hj hij => ?_
 exact (h j l[j] (List.getElem?_eq_getElem hj)).2.2 i hij l[i] (List.getElem?_eq_getElem hi)
theorem apart_keep {l : List SBinding} (h : Apart l) (now : Int) : Apart (keep now l) := List.Pairwise.filter _ h
theorem apart_idx {l : List SBinding} (h : Apart l) {i j : Nat} {x y : SBinding} (hx : l[i]? = some x) (hy : l[j]? = some y) (ha : Alike x y) : i = j := by
 obtain ⟨i1, i2⟩ := List.getElem?_eq_some_iff.1 hx
 obtain ⟨j1, j2⟩ := List.getElem?_eq_some_iff.1 hy
 have hp := List.pairwise_iff_getElem.1 h
 rcases Nat.lt_trichotomy i j with hlt | heq | hgt
 ·have := hp i j i1 j1 hlt
  rw [i2, j2] at this
  exact absurd ha.symm this
 ·exact heq
 ·have := hp j i j1 i1 hgt
  rw [i2, j2] at this
  exact absurd ha this
def OutQ (n : SNat) (now : Int) (a b : SAddr) (r : SNat × SAddr × Int) : Prop :=
 (¬ Valid n ∧ r = (nat0, addr0, 130)) ∨ (Valid n ∧ ¬ (Time n now [a, b] ∧ a.fHost ≠ n.fHost) ∧ r = (nat0, addr0, 2)) ∨
 (Valid n ∧ (Time n now [a, b] ∧ a.fHost ≠ n.fHost) ∧ ((NoBase (atT n now) a b ∧ r = (nat0, addr0, 4)) ∨
  ∃ t j x, Base (atT n now) a b t j x ∧ r = (⟨n.fMapping, n.fFilter, n.fTimeout, n.fHairpin, n.fHost, n.fLow, n.fHigh, now, t.set j (upd (atT n now) b x)⟩, ⟨n.fHost, x.fPort⟩, 0)))
end Go.Proofs.YtdiagiflihpidaaDoor
namespace Go.Proofs.YtdiagiflihpidaaDoor
open Go Go.EV
set_option maxRecDepth 100000
section
variable {P : Program} {G : Nat → Option (List V)} {ρ : Type} {Q : ρ → Prop} {id : Nat} {A B C D E : T P G ρ}
theorem ceq1 (h : Ok B Q) : Ok (.ceq id 1 [0, 1, 2, 3] (fun v => bif v == 0 then A else bif v == 1 then B else bif v == 2 then C else bif v == 3 then D else E)) Q := Ok.ceq rfl h
theorem ceq2 (h : Ok C Q) : Ok (.ceq id 2 [0, 1, 2, 3] (fun v => bif v == 0 then A else bif v == 1 then B else bif v == 2 then C else bif v == 3 then D else E)) Q := Ok.ceq rfl h
theorem ceq3 (h : Ok D Q) : Ok (.ceq id 3 [0, 1, 2, 3] (fun v => bif v == 0 then A else bif v == 1 then B else bif v == 2 then C else bif v == 3 then D else E)) Q := Ok.ceq rfl h
end
theorem maxL (m : Nat) (h : m ≤ 1000001) : (if wi64 ((m : Int) - 16) > (0 : Int) then wi64 ((m : Int) - 16) else (0 : Int)) = ((m - 16 : Nat) : Int) := by
 rw [wi64_id (by omega) (by omega)]
 split <;> omega
theorem set_self {α : Type} {t : List α} {j : Nat} (h : j < t.length) (y : α) : (t.set j y)[j]? = some y := List.getElem?_set_self h
def Out1 (n : SNat) (a b : SAddr) (q : List SBinding × Int × ByteArray × Int) : Prop :=
 (NoBase n a b ∧ q = (n.fTable, 4, ByteArray.empty, 0)) ∨ ∃ t j x, Base n a b t j x ∧ q = (t.set j (upd n b x), 0, n.fHost, x.fPort)
theorem base_open {n : SNat} {a b : SAddr} {t : List SBinding} {j : Nat} {x : SBinding} {k : Nat} (h : Base n a b t j x) (ho : ∀ y, y ∈ n.fTable → y.fOpen.length ≤ k) : x.fOpen.length ≤ k := by
 rcases h.mem x (List.mem_of_getElem? h.at) with h | h
 ·exact ho x h
 ·rw [h]; simp
theorem ok58_1m (f tm : Int) (hp : Bool) (ho : ByteArray) (lo hi now : Int) (l : List SBinding) (a b : SAddr) (hf : 1 ≤ f ∧ f ≤ 3) (hd : Ports ⟨1, f, tm, hp, ho, lo, hi, now, l⟩) (hl : SmallN l) :
  SOk (s58_1 a b 1 f tm hp ho lo hi now l) (Out1 ⟨1, f, tm, hp, ho, lo, hi, now, l⟩ a b) := by
 have hf3 : f = 1 ∨ f = 2 ∨ f = 3 := by omega
 have hl1 := hl.1
 show Ok (g58_1 a b 1 f tm hp ho lo hi now l) _
 unfold g58_1
 refine ceq1 (Ok.call (ok146 _) fun kp hkp => ?_)
 subst kp
 refine Ok.view (ok85 ⟨⟨1, f, tm, hp, ho, lo, hi, now, l⟩⟩ _ _ hl1) fun i hi2 => ?_
 refine Ok.bind2 (R := fun e => match e with | .inl _ => NoBase ⟨1, f, tm, hp, ho, lo, hi, now, l⟩ a b | .inr t => ∃ x, 0 ≤ t.2 ∧ Base ⟨1, f, tm, hp, ho, lo, hi, now, l⟩ a b t.1 (0 + t.2.toNat) x) ?_ (fun _ he => Ok.gh (Ok.done (.inl ⟨he, rfl⟩))) (fun t ht => ?_)
 ·refine Ok.br (fun h => ?_) (fun h => Ok.gh (Ok.done ?_))
  ·rcases hi2 with ⟨h0, _⟩ | ⟨_, hnone⟩
   ·simp at h; omega
   ·refine Ok.view (ok87 ⟨⟨1, f, tm, hp, ho, lo, hi, now, l⟩⟩ _ hl1 hd) fun r hr => Ok.br (fun h1 => Ok.done ?_) (fun h1 => Ok.app ?_ (Ok.gh (Ok.done ?_)))
    ·cases r with
     | none => exact ⟨hnone, hr⟩
     | some p => simp at h1
    ·simp; omega
    ·cases r with
     | none => simp at h1
     | some p => exact ⟨_, by simp, .inr ⟨hnone, p, hr, rfl, rfl, by simp⟩⟩
  ·rcases hi2 with ⟨h0, x, hx, hxx⟩ | ⟨h0, _⟩
   ·exact ⟨x, h0, .inl ⟨rfl, by rw [Nat.zero_add]; exact hx, hxx.1, hxx.2⟩⟩
   ·simp at h; omega
 ·obtain ⟨x, h0, hb⟩ := ht
  have hx := hb.at
  have hjl := (List.getElem?_eq_some_iff.1 hx).1
  have hlen := hb.len
  simp only at hlen
  have hxo : x.fOpen.length ≤ 1000000 := base_open hb hl.2
  refine Ok.chk (by simp; omega) (Ok.row rfl hx (Ok.re (Ok.gh ?_)))
  rcases hf3 with rfl | rfl | rfl
  ·refine ceq1 (Ok.call (ok146 _) fun kf hkf => ?_)
   subst kf
   refine Ok.cnd (R := fun c => (c = true ↔ ¬ ((1 : Int) = 1 ∨ keyOf 1 b ∈ x.fOpen))) ?_ fun c hc => ?_
   ·exact Ok.br (fun h => by simp at h) (fun _ => Ok.done (by simp))
   refine Ok.bind (R := fun e => e = t.1.set (0 + t.2.toNat) (upd ⟨1, 1, tm, hp, ho, lo, hi, now, l⟩ b x)) ?_ fun e he => ?_
   ·refine Ok.br (fun h => ?_) (fun h => Ok.done ?_)
    ·refine Ok.rowt (set_self hjl _) (Ok.re (Ok.app (by simp; omega) (Ok.nst0 (by simp; omega) (Ok.gh (Ok.rowg (set_self (by simp; omega) _) (Ok.hrow (by simp; omega) (Ok.hrow (by simp; omega) (Ok.chk ?_ (Ok.nst1 (by simp; omega) ?_ (Ok.gh (Ok.done ?_)))))))))))
     ·rw [maxL _ (by simp; omega)]; simp; omega
     ·rw [maxL _ (by simp; omega)]; simp; omega
     ·rw [maxL _ (by simp; omega), List.set_set, List.set_set, Int.toNat_natCast]
      simp only [upd, newOpen, if_neg (hc.1 h), List.length_append, List.length_singleton]
    ·have hk := Classical.byContradiction fun h2 => by rw [hc.2 h2] at h; simp at h
     simp only [upd, newOpen, if_pos hk]
   ·subst he
    exact Ok.row rfl (set_self hjl _) (Ok.gh (Ok.done (.inr ⟨t.1, _, x, hb, rfl⟩)))
  ·refine ceq2 (Ok.call (ok147 _) fun kf hkf => ?_)
   subst kf
   refine Ok.cnd (R := fun c => (c = true ↔ ¬ ((2 : Int) = 1 ∨ keyOf 2 b ∈ x.fOpen))) ?_ fun c hc => ?_
   ·refine Ok.br (fun _ => Ok.row rfl (set_self hjl _) (Ok.call (ok88 _ _ hxo) fun c hc => Ok.done ?_)) (fun h => by simp at h)
    simp only [show ¬ ((2 : Int) = 1) from by omega, false_or, ← hc]
    cases c <;> simp
   refine Ok.bind (R := fun e => e = t.1.set (0 + t.2.toNat) (upd ⟨1, 2, tm, hp, ho, lo, hi, now, l⟩ b x)) ?_ fun e he => ?_
   ·refine Ok.br (fun h => ?_) (fun h => Ok.done ?_)
    ·refine Ok.rowt (set_self hjl _) (Ok.re (Ok.app (by simp; omega) (Ok.nst0 (by simp; omega) (Ok.gh (Ok.rowg (set_self (by simp; omega) _) (Ok.hrow (by simp; omega) (Ok.hrow (by simp; omega) (Ok.chk ?_ (Ok.nst1 (by simp; omega) ?_ (Ok.gh (Ok.done ?_)))))))))))
     ·rw [maxL _ (by simp; omega)]; simp; omega
     ·rw [maxL _ (by simp; omega)]; simp; omega
     ·rw [maxL _ (by simp; omega), List.set_set, List.set_set, Int.toNat_natCast]
      simp only [upd, newOpen, if_neg (hc.1 h), List.length_append, List.length_singleton]
    ·have hk := Classical.byContradiction fun h2 => by rw [hc.2 h2] at h; simp at h
     simp only [upd, newOpen, if_pos hk]
   ·subst he
    exact Ok.row rfl (set_self hjl _) (Ok.gh (Ok.done (.inr ⟨t.1, _, x, hb, rfl⟩)))
  ·refine ceq3 (Ok.call (ok148 _) fun kf hkf => ?_)
   subst kf
   refine Ok.cnd (R := fun c => (c = true ↔ ¬ ((3 : Int) = 1 ∨ keyOf 3 b ∈ x.fOpen))) ?_ fun c hc => ?_
   ·refine Ok.br (fun _ => Ok.row rfl (set_self hjl _) (Ok.call (ok88 _ _ hxo) fun c hc => Ok.done ?_)) (fun h => by simp at h)
    simp only [show ¬ ((3 : Int) = 1) from by omega, false_or, ← hc]
    cases c <;> simp
   refine Ok.bind (R := fun e => e = t.1.set (0 + t.2.toNat) (upd ⟨1, 3, tm, hp, ho, lo, hi, now, l⟩ b x)) ?_ fun e he => ?_
   ·refine Ok.br (fun h => ?_) (fun h => Ok.done ?_)
    ·refine Ok.rowt (set_self hjl _) (Ok.re (Ok.app (by simp; omega) (Ok.nst0 (by simp; omega) (Ok.gh (Ok.rowg (set_self (by simp; omega) _) (Ok.hrow (by simp; omega) (Ok.hrow (by simp; omega) (Ok.chk ?_ (Ok.nst1 (by simp; omega) ?_ (Ok.gh (Ok.done ?_)))))))))))
     ·rw [maxL _ (by simp; omega)]; simp; omega
     ·rw [maxL _ (by simp; omega)]; simp; omega
     ·rw [maxL _ (by simp; omega), List.set_set, List.set_set, Int.toNat_natCast]
      simp only [upd, newOpen, if_neg (hc.1 h), List.length_append, List.length_singleton]
    ·have hk := Classical.byContradiction fun h2 => by rw [hc.2 h2] at h; simp at h
     simp only [upd, newOpen, if_pos hk]
   ·subst he
    exact Ok.row rfl (set_self hjl _) (Ok.gh (Ok.done (.inr ⟨t.1, _, x, hb, rfl⟩)))
theorem ok58_2m (f tm : Int) (hp : Bool) (ho : ByteArray) (lo hi now : Int) (l : List SBinding) (a b : SAddr) (hf : 1 ≤ f ∧ f ≤ 3) (hd : Ports ⟨2, f, tm, hp, ho, lo, hi, now, l⟩) (hl : SmallN l) :
  SOk (s58_1 a b 2 f tm hp ho lo hi now l) (Out1 ⟨2, f, tm, hp, ho, lo, hi, now, l⟩ a b) := by
 have hf3 : f = 1 ∨ f = 2 ∨ f = 3 := by omega
 have hl1 := hl.1
 show Ok (g58_1 a b 2 f tm hp ho lo hi now l) _
 unfold g58_1
 refine ceq2 (Ok.call (ok147 _) fun kp hkp => ?_)
 subst kp
 refine Ok.view (ok85 ⟨⟨2, f, tm, hp, ho, lo, hi, now, l⟩⟩ _ _ hl1) fun i hi2 => ?_
 refine Ok.bind2 (R := fun e => match e with | .inl _ => NoBase ⟨2, f, tm, hp, ho, lo, hi, now, l⟩ a b | .inr t => ∃ x, 0 ≤ t.2 ∧ Base ⟨2, f, tm, hp, ho, lo, hi, now, l⟩ a b t.1 (0 + t.2.toNat) x) ?_ (fun _ he => Ok.gh (Ok.done (.inl ⟨he, rfl⟩))) (fun t ht => ?_)
 ·refine Ok.br (fun h => ?_) (fun h => Ok.gh (Ok.done ?_))
  ·rcases hi2 with ⟨h0, _⟩ | ⟨_, hnone⟩
   ·simp at h; omega
   ·refine Ok.view (ok87 ⟨⟨2, f, tm, hp, ho, lo, hi, now, l⟩⟩ _ hl1 hd) fun r hr => Ok.br (fun h1 => Ok.done ?_) (fun h1 => Ok.app ?_ (Ok.gh (Ok.done ?_)))
    ·cases r with
     | none => exact ⟨hnone, hr⟩
     | some p => simp at h1
    ·simp; omega
    ·cases r with
     | none => simp at h1
     | some p => exact ⟨_, by simp, .inr ⟨hnone, p, hr, rfl, rfl, by simp⟩⟩
  ·rcases hi2 with ⟨h0, x, hx, hxx⟩ | ⟨h0, _⟩
   ·exact ⟨x, h0, .inl ⟨rfl, by rw [Nat.zero_add]; exact hx, hxx.1, hxx.2⟩⟩
   ·simp at h; omega
 ·obtain ⟨x, h0, hb⟩ := ht
  have hx := hb.at
  have hjl := (List.getElem?_eq_some_iff.1 hx).1
  have hlen := hb.len
  simp only at hlen
  have hxo : x.fOpen.length ≤ 1000000 := base_open hb hl.2
  refine Ok.chk (by simp; omega) (Ok.row rfl hx (Ok.re (Ok.gh ?_)))
  rcases hf3 with rfl | rfl | rfl
  ·refine ceq1 (Ok.call (ok146 _) fun kf hkf => ?_)
   subst kf
   refine Ok.cnd (R := fun c => (c = true ↔ ¬ ((1 : Int) = 1 ∨ keyOf 1 b ∈ x.fOpen))) ?_ fun c hc => ?_
   ·exact Ok.br (fun h => by simp at h) (fun _ => Ok.done (by simp))
   refine Ok.bind (R := fun e => e = t.1.set (0 + t.2.toNat) (upd ⟨2, 1, tm, hp, ho, lo, hi, now, l⟩ b x)) ?_ fun e he => ?_
   ·refine Ok.br (fun h => ?_) (fun h => Ok.done ?_)
    ·refine Ok.rowt (set_self hjl _) (Ok.re (Ok.app (by simp; omega) (Ok.nst0 (by simp; omega) (Ok.gh (Ok.rowg (set_self (by simp; omega) _) (Ok.hrow (by simp; omega) (Ok.hrow (by simp; omega) (Ok.chk ?_ (Ok.nst1 (by simp; omega) ?_ (Ok.gh (Ok.done ?_)))))))))))
     ·rw [maxL _ (by simp; omega)]; simp; omega
     ·rw [maxL _ (by simp; omega)]; simp; omega
     ·rw [maxL _ (by simp; omega), List.set_set, List.set_set, Int.toNat_natCast]
      simp only [upd, newOpen, if_neg (hc.1 h), List.length_append, List.length_singleton]
    ·have hk := Classical.byContradiction fun h2 => by rw [hc.2 h2] at h; simp at h
     simp only [upd, newOpen, if_pos hk]
   ·subst he
    exact Ok.row rfl (set_self hjl _) (Ok.gh (Ok.done (.inr ⟨t.1, _, x, hb, rfl⟩)))
  ·refine ceq2 (Ok.call (ok147 _) fun kf hkf => ?_)
   subst kf
   refine Ok.cnd (R := fun c => (c = true ↔ ¬ ((2 : Int) = 1 ∨ keyOf 2 b ∈ x.fOpen))) ?_ fun c hc => ?_
   ·refine Ok.br (fun _ => Ok.row rfl (set_self hjl _) (Ok.call (ok88 _ _ hxo) fun c hc => Ok.done ?_)) (fun h => by simp at h)
    simp only [show ¬ ((2 : Int) = 1) from by omega, false_or, ← hc]
    cases c <;> simp
   refine Ok.bind (R := fun e => e = t.1.set (0 + t.2.toNat) (upd ⟨2, 2, tm, hp, ho, lo, hi, now, l⟩ b x)) ?_ fun e he => ?_
   ·refine Ok.br (fun h => ?_) (fun h => Ok.done ?_)
    ·refine Ok.rowt (set_self hjl _) (Ok.re (Ok.app (by simp; omega) (Ok.nst0 (by simp; omega) (Ok.gh (Ok.rowg (set_self (by simp; omega) _) (Ok.hrow (by simp; omega) (Ok.hrow (by simp; omega) (Ok.chk ?_ (Ok.nst1 (by simp; omega) ?_ (Ok.gh (Ok.done ?_)))))))))))
     ·rw [maxL _ (by simp; omega)]; simp; omega
     ·rw [maxL _ (by simp; omega)]; simp; omega
     ·rw [maxL _ (by simp; omega), List.set_set, List.set_set, Int.toNat_natCast]
      simp only [upd, newOpen, if_neg (hc.1 h), List.length_append, List.length_singleton]
    ·have hk := Classical.byContradiction fun h2 => by rw [hc.2 h2] at h; simp at h
     simp only [upd, newOpen, if_pos hk]
   ·subst he
    exact Ok.row rfl (set_self hjl _) (Ok.gh (Ok.done (.inr ⟨t.1, _, x, hb, rfl⟩)))
  ·refine ceq3 (Ok.call (ok148 _) fun kf hkf => ?_)
   subst kf
   refine Ok.cnd (R := fun c => (c = true ↔ ¬ ((3 : Int) = 1 ∨ keyOf 3 b ∈ x.fOpen))) ?_ fun c hc => ?_
   ·refine Ok.br (fun _ => Ok.row rfl (set_self hjl _) (Ok.call (ok88 _ _ hxo) fun c hc => Ok.done ?_)) (fun h => by simp at h)
    simp only [show ¬ ((3 : Int) = 1) from by omega, false_or, ← hc]
    cases c <;> simp
   refine Ok.bind (R := fun e => e = t.1.set (0 + t.2.toNat) (upd ⟨2, 3, tm, hp, ho, lo, hi, now, l⟩ b x)) ?_ fun e he => ?_
   ·refine Ok.br (fun h => ?_) (fun h => Ok.done ?_)
    ·refine Ok.rowt (set_self hjl _) (Ok.re (Ok.app (by simp; omega) (Ok.nst0 (by simp; omega) (Ok.gh (Ok.rowg (set_self (by simp; omega) _) (Ok.hrow (by simp; omega) (Ok.hrow (by simp; omega) (Ok.chk ?_ (Ok.nst1 (by simp; omega) ?_ (Ok.gh (Ok.done ?_)))))))))))
     ·rw [maxL _ (by simp; omega)]; simp; omega
     ·rw [maxL _ (by simp; omega)]; simp; omega
     ·rw [maxL _ (by simp; omega), List.set_set, List.set_set, Int.toNat_natCast]
      simp only [upd, newOpen, if_neg (hc.1 h), List.length_append, List.length_singleton]
    ·have hk := Classical.byContradiction fun h2 => by rw [hc.2 h2] at h; simp at h
     simp only [upd, newOpen, if_pos hk]
   ·subst he
    exact Ok.row rfl (set_self hjl _) (Ok.gh (Ok.done (.inr ⟨t.1, _, x, hb, rfl⟩)))
theorem ok58_3m (f tm : Int) (hp : Bool) (ho : ByteArray) (lo hi now : Int) (l : List SBinding) (a b : SAddr) (hf : 1 ≤ f ∧ f ≤ 3) (hd : Ports ⟨3, f, tm, hp, ho, lo, hi, now, l⟩) (hl : SmallN l) :
  SOk (s58_1 a b 3 f tm hp ho lo hi now l) (Out1 ⟨3, f, tm, hp, ho, lo, hi, now, l⟩ a b) := by
 have hf3 : f = 1 ∨ f = 2 ∨ f = 3 := by omega
 have hl1 := hl.1
 show Ok (g58_1 a b 3 f tm hp ho lo hi now l) _
 unfold g58_1
 refine ceq3 (Ok.call (ok148 _) fun kp hkp => ?_)
 subst kp
 refine Ok.view (ok85 ⟨⟨3, f, tm, hp, ho, lo, hi, now, l⟩⟩ _ _ hl1) fun i hi2 => ?_
 refine Ok.bind2 (R := fun e => match e with | .inl _ => NoBase ⟨3, f, tm, hp, ho, lo, hi, now, l⟩ a b | .inr t => ∃ x, 0 ≤ t.2 ∧ Base ⟨3, f, tm, hp, ho, lo, hi, now, l⟩ a b t.1 (0 + t.2.toNat) x) ?_ (fun _ he => Ok.gh (Ok.done (.inl ⟨he, rfl⟩))) (fun t ht => ?_)
 ·refine Ok.br (fun h => ?_) (fun h => Ok.gh (Ok.done ?_))
  ·rcases hi2 with ⟨h0, _⟩ | ⟨_, hnone⟩
   ·simp at h; omega
   ·refine Ok.view (ok87 ⟨⟨3, f, tm, hp, ho, lo, hi, now, l⟩⟩ _ hl1 hd) fun r hr => Ok.br (fun h1 => Ok.done ?_) (fun h1 => Ok.app ?_ (Ok.gh (Ok.done ?_)))
    ·cases r with
     | none => exact ⟨hnone, hr⟩
     | some p => simp at h1
    ·simp; omega
    ·cases r with
     | none => simp at h1
     | some p => exact ⟨_, by simp, .inr ⟨hnone, p, hr, rfl, rfl, by simp⟩⟩
  ·rcases hi2 with ⟨h0, x, hx, hxx⟩ | ⟨h0, _⟩
   ·exact ⟨x, h0, .inl ⟨rfl, by rw [Nat.zero_add]; exact hx, hxx.1, hxx.2⟩⟩
   ·simp at h; omega
 ·obtain ⟨x, h0, hb⟩ := ht
  have hx := hb.at
  have hjl := (List.getElem?_eq_some_iff.1 hx).1
  have hlen := hb.len
  simp only at hlen
  have hxo : x.fOpen.length ≤ 1000000 := base_open hb hl.2
  refine Ok.chk (by simp; omega) (Ok.row rfl hx (Ok.re (Ok.gh ?_)))
  rcases hf3 with rfl | rfl | rfl
  ·refine ceq1 (Ok.call (ok146 _) fun kf hkf => ?_)
   subst kf
   refine Ok.cnd (R := fun c => (c = true ↔ ¬ ((1 : Int) = 1 ∨ keyOf 1 b ∈ x.fOpen))) ?_ fun c hc => ?_
   ·exact Ok.br (fun h => by simp at h) (fun _ => Ok.done (by simp))
   refine Ok.bind (R := fun e => e = t.1.set (0 + t.2.toNat) (upd ⟨3, 1, tm, hp, ho, lo, hi, now, l⟩ b x)) ?_ fun e he => ?_
   ·refine Ok.br (fun h => ?_) (fun h => Ok.done ?_)
    ·refine Ok.rowt (set_self hjl _) (Ok.re (Ok.app (by simp; omega) (Ok.nst0 (by simp; omega) (Ok.gh (Ok.rowg (set_self (by simp; omega) _) (Ok.hrow (by simp; omega) (Ok.hrow (by simp; omega) (Ok.chk ?_ (Ok.nst1 (by simp; omega) ?_ (Ok.gh (Ok.done ?_)))))))))))
     ·rw [maxL _ (by simp; omega)]; simp; omega
     ·rw [maxL _ (by simp; omega)]; simp; omega
     ·rw [maxL _ (by simp; omega), List.set_set, List.set_set, Int.toNat_natCast]
      simp only [upd, newOpen, if_neg (hc.1 h), List.length_append, List.length_singleton]
    ·have hk := Classical.byContradiction fun h2 => by rw [hc.2 h2] at h; simp at h
     simp only [upd, newOpen, if_pos hk]
   ·subst he
    exact Ok.row rfl (set_self hjl _) (Ok.gh (Ok.done (.inr ⟨t.1, _, x, hb, rfl⟩)))
  ·refine ceq2 (Ok.call (ok147 _) fun kf hkf => ?_)
   subst kf
   refine Ok.cnd (R := fun c => (c = true ↔ ¬ ((2 : Int) = 1 ∨ keyOf 2 b ∈ x.fOpen))) ?_ fun c hc => ?_
   ·refine Ok.br (fun _ => Ok.row rfl (set_self hjl _) (Ok.call (ok88 _ _ hxo) fun c hc => Ok.done ?_)) (fun h => by simp at h)
    simp only [show ¬ ((2 : Int) = 1) from by omega, false_or, ← hc]
    cases c <;> simp
   refine Ok.bind (R := fun e => e = t.1.set (0 + t.2.toNat) (upd ⟨3, 2, tm, hp, ho, lo, hi, now, l⟩ b x)) ?_ fun e he => ?_
   ·refine Ok.br (fun h => ?_) (fun h => Ok.done ?_)
    ·refine Ok.rowt (set_self hjl _) (Ok.re (Ok.app (by simp; omega) (Ok.nst0 (by simp; omega) (Ok.gh (Ok.rowg (set_self (by simp; omega) _) (Ok.hrow (by simp; omega) (Ok.hrow (by simp; omega) (Ok.chk ?_ (Ok.nst1 (by simp; omega) ?_ (Ok.gh (Ok.done ?_)))))))))))
     ·rw [maxL _ (by simp; omega)]; simp; omega
     ·rw [maxL _ (by simp; omega)]; simp; omega
     ·rw [maxL _ (by simp; omega), List.set_set, List.set_set, Int.toNat_natCast]
      simp only [upd, newOpen, if_neg (hc.1 h), List.length_append, List.length_singleton]
    ·have hk := Classical.byContradiction fun h2 => by rw [hc.2 h2] at h; simp at h
     simp only [upd, newOpen, if_pos hk]
   ·subst he
    exact Ok.row rfl (set_self hjl _) (Ok.gh (Ok.done (.inr ⟨t.1, _, x, hb, rfl⟩)))
  ·refine ceq3 (Ok.call (ok148 _) fun kf hkf => ?_)
   subst kf
   refine Ok.cnd (R := fun c => (c = true ↔ ¬ ((3 : Int) = 1 ∨ keyOf 3 b ∈ x.fOpen))) ?_ fun c hc => ?_
   ·refine Ok.br (fun _ => Ok.row rfl (set_self hjl _) (Ok.call (ok88 _ _ hxo) fun c hc => Ok.done ?_)) (fun h => by simp at h)
    simp only [show ¬ ((3 : Int) = 1) from by omega, false_or, ← hc]
    cases c <;> simp
   refine Ok.bind (R := fun e => e = t.1.set (0 + t.2.toNat) (upd ⟨3, 3, tm, hp, ho, lo, hi, now, l⟩ b x)) ?_ fun e he => ?_
   ·refine Ok.br (fun h => ?_) (fun h => Ok.done ?_)
    ·refine Ok.rowt (set_self hjl _) (Ok.re (Ok.app (by simp; omega) (Ok.nst0 (by simp; omega) (Ok.gh (Ok.rowg (set_self (by simp; omega) _) (Ok.hrow (by simp; omega) (Ok.hrow (by simp; omega) (Ok.chk ?_ (Ok.nst1 (by simp; omega) ?_ (Ok.gh (Ok.done ?_)))))))))))
     ·rw [maxL _ (by simp; omega)]; simp; omega
     ·rw [maxL _ (by simp; omega)]; simp; omega
     ·rw [maxL _ (by simp; omega), List.set_set, List.set_set, Int.toNat_natCast]
      simp only [upd, newOpen, if_neg (hc.1 h), List.length_append, List.length_singleton]
    ·have hk := Classical.byContradiction fun h2 => by rw [hc.2 h2] at h; simp at h
     simp only [upd, newOpen, if_pos hk]
   ·subst he
    exact Ok.row rfl (set_self hjl _) (Ok.gh (Ok.done (.inr ⟨t.1, _, x, hb, rfl⟩)))
theorem ok58_1 (n : SNat) (a b : SAddr) (hm : 1 ≤ n.fMapping ∧ n.fMapping ≤ 3) (hf : 1 ≤ n.fFilter ∧ n.fFilter ≤ 3) (hd : Ports n) (hl : SmallN n.fTable) :
  SOk (s58_1 a b n.fMapping n.fFilter n.fTimeout n.fHairpin n.fHost n.fLow n.fHigh n.fNow n.fTable) (Out1 n a b) := by
 obtain ⟨m, f, tm, hp, ho, lo, hi, now, l⟩ := n
 simp only at hm hf hl
 have hm3 : m = 1 ∨ m = 2 ∨ m = 3 := by omega
 rcases hm3 with rfl | rfl | rfl
 ·exact ok58_1m f tm hp ho lo hi now l a b hf hd hl
 ·exact ok58_2m f tm hp ho lo hi now l a b hf hd hl
 ·exact ok58_3m f tm hp ho lo hi now l a b hf hd hl
theorem ports_of {n : SNat} (h : Valid n) (now : Int) : Ports (atT n now) := h.1.2.2.2.2.1
theorem ok25 (n : SNat) (now : Int) (a b : SAddr) (hl : SmallN n.fTable) : SOk (s25 n now a b) (OutQ n now a b) := by
 show Ok (g25 n now a b) _
 unfold g25 OutQ
 refine Ok.call2 (ok56_1 n now [a, b] hl (by simp)) (fun e he => ?_) (fun t ht => ?_)
 ·have he' : (e = 130 ∧ ¬ Valid n) ∨ (e = 2 ∧ Valid n ∧ ¬ Time n now [a, b]) := by
   rcases he with ⟨h1, h2⟩ | ⟨h1, h2, h3⟩ | ⟨_, _, h3⟩
   ·simp at h2; exact .inl ⟨h2, h1⟩
   ·simp at h3; exact .inr ⟨h3, h1, h2⟩
   ·simp at h3
  have hne : e ≠ 0 := by rcases he' with h | h <;> omega
  refine Ok.cnd (R := fun c => c = false) ?_ fun c hc => ?_
  ·refine Ok.br (fun h => absurd (by simpa using h) hne) (fun _ => Ok.done rfl)
  ·refine Ok.bind (R := fun x => x = e) (Ok.br (fun h => by rw [hc] at h; simp at h) (fun _ => Ok.done rfl)) fun x hx => ?_
   subst hx
   refine Ok.br (fun _ => Ok.done ?_) (fun h => absurd (by simpa using h) hne)
   rcases he' with ⟨rfl, h1⟩ | ⟨rfl, h1, h2⟩
   ·exact .inl ⟨h1, rfl⟩
   ·exact .inr (.inl ⟨h1, fun h => h2 h.1, rfl⟩)
 ·rcases ht with ⟨_, h2⟩ | ⟨_, _, h3⟩ | ⟨hv, htm, h3⟩
  ·simp at h2
  ·simp at h3
  simp at h3; subst h3
  refine Ok.bind (R := fun x => x = if a.fHost = n.fHost then 2 else 0) ?_ fun x hx => ?_
  ·refine Ok.br (fun h => Ok.done ?_) (fun h => Ok.done ?_)
   ·simp at h; simp [h]
   ·simp at h; simp [h]
  ·refine Ok.br (fun h => Ok.done ?_) (fun h => ?_)
   ·by_cases hh : a.fHost = n.fHost
    ·rw [if_pos hh] at hx; subst hx
     exact .inr (.inl ⟨hv, fun h => h.2 hh, rfl⟩)
    ·rw [if_neg hh] at hx; subst hx; simp at h
   ·have hh : a.fHost ≠ n.fHost := fun hh => by rw [if_pos hh] at hx; subst hx; simp at h
    refine Ok.call (ok58_1 (atT n now) a b hv.1.1 hv.1.2.1 (ports_of hv now) (smallN_keep hl now)) fun q hq => ?_
    rcases hq with ⟨h1, rfl⟩ | ⟨t, j, x, h1, rfl⟩
    ·exact Ok.br (fun _ => Ok.done (.inr (.inr ⟨hv, ⟨htm, hh⟩, .inl ⟨h1, rfl⟩⟩))) (fun h => by simp at h)
    ·exact Ok.br (fun h => by simp at h) (fun _ => Ok.gh (Ok.done (.inr (.inr ⟨hv, ⟨htm, hh⟩, .inr ⟨t, j, x, h1, rfl⟩⟩))))
end Go.Proofs.YtdiagiflihpidaaDoor
