/- Guides and contracts, printed by a program.
   The port for an address inside: a range over a function, put together by hand.
   Guides and contracts, printed by a program.
   Guides and contracts, printed by a program. -/
import Derived.Test.YtdiagiflihpidaaDoorS7
import Derived.Test.YtdiagiflihpidaaDoorS6
import Derived.Test.YtdiagiflihpidaaDoorProg
import Derived.KernelRfl
namespace Go.Proofs.YtdiagiflihpidaaDoor
open Go Go.EV
set_option maxRecDepth 100000
def GG : Nat → Option (List V) := fun g => if g = 0 then some [.nilf, .fn 146 [] [], .fn 147 [] [], .fn 148 [] []] else none
abbrev TT := T Tryd.prog GG
theorem mixed : Tryd.prog.follows .mixedOrders = true := by kernel_rfl
structure SAddr where
 fHost : ByteArray
 fPort : Int
structure SBinding where
 fInside : SAddr
 fPeer : SAddr
 fPort : Int
 fUntil : Int
 fOpen : (List SAddr)
structure SNat where
 fMapping : Int
 fFilter : Int
 fTimeout : Int
 fHairpin : Bool
 fHost : ByteArray
 fLow : Int
 fHigh : Int
 fNow : Int
 fTable : (List SBinding)
structure SRouter where
 fNat : SNat
structure SHost where
 fs : ByteArray
def tySAddr : Ty SAddr := ⟨fun x => [.str x.fHost, .int .i64 x.fPort], fun x => [.str x.fHost, .int .i64 x.fPort], fun _ => rfl, fun _ => rfl, fun _ _ => rfl, fun _ => rfl⟩
def tySBinding : Ty SBinding := ⟨fun x => [.str x.fInside.fHost, .int .i64 x.fInside.fPort, .str x.fPeer.fHost, .int .i64 x.fPeer.fPort, .int .i64 x.fPort, .int .i64 x.fUntil, .sl false 2 (List.map tySAddr.c x.fOpen)], fun x => [.str x.fInside.fHost, .int .i64 x.fInside.fPort, .str x.fPeer.fHost, .int .i64 x.fPeer.fPort, .int .i64 x.fPort, .int .i64 x.fUntil, .sl false 2 (List.map tySAddr.c x.fOpen)], fun _ => rfl, fun _ => rfl, fun _ _ => rfl, fun _ => rfl⟩
def tySBindingO6 : Ty SBinding := ⟨fun x => [.str x.fInside.fHost, .int .i64 x.fInside.fPort, .str x.fPeer.fHost, .int .i64 x.fPeer.fPort, .int .i64 x.fPort, .int .i64 x.fUntil, .sl true 2 (List.map tySAddr.c x.fOpen)], fun x => [.str x.fInside.fHost, .int .i64 x.fInside.fPort, .str x.fPeer.fHost, .int .i64 x.fPeer.fPort, .int .i64 x.fPort, .int .i64 x.fUntil, .sl false 2 (List.map tySAddr.c x.fOpen)], fun _ => rfl, fun _ => rfl, fun _ _ => rfl, fun _ => rfl⟩
noncomputable def g116 (_ : SRouter) (_ : Int) : TT (Unit) :=
 .done ()
theorem k116 (p0 : SRouter) (p1 : Int) : FnB Tryd.prog GG [0, 1, 2, 3, 4] Tryd.f116 [.snap [.int .i64 p0.fNat.fMapping, .int .i64 p0.fNat.fFilter, .int .i64 p0.fNat.fTimeout, .bool p0.fNat.fHairpin, .str p0.fNat.fHost, .int .i64 p0.fNat.fLow, .int .i64 p0.fNat.fHigh, .int .i64 p0.fNat.fNow, .sl false 7 (List.map tySBinding.c p0.fNat.fTable)], .int .i64 p1] (Ext.of .normal (argTs [.snap [.int .i64 p0.fNat.fMapping, .int .i64 p0.fNat.fFilter, .int .i64 p0.fNat.fTimeout, .bool p0.fNat.fHairpin, .str p0.fNat.fHost, .int .i64 p0.fNat.fLow, .int .i64 p0.fNat.fHigh, .int .i64 p0.fNat.fNow, .sl false 7 (List.map tySBinding.c p0.fNat.fTable)], .int .i64 p1]) [] [] (by rfl)) (g116 p0 p1) (fun (_ : Unit) => .fn 127 [] [.ptr 3 0 0, .ptr 2 0 0]) (fun (_ : Unit) => Ext.of .normal [] [(2, ⟨1, true, [[.snap [.int .i64 p0.fNat.fMapping, .int .i64 p0.fNat.fFilter, .int .i64 p0.fNat.fTimeout, .bool p0.fNat.fHairpin, .str p0.fNat.fHost, .int .i64 p0.fNat.fLow, .int .i64 p0.fNat.fHigh, .int .i64 p0.fNat.fNow, .sl false 7 (List.map tySBinding.c p0.fNat.fTable)]]]⟩), (3, ⟨1, true, [[.int .i64 p1]]⟩)] [] (by rfl)) := by unfold FnB; kernel_rfl
noncomputable def s116 (p0 : SRouter) (p1 : Int) : EV.Spec Tryd.prog GG (Unit) := .ofFnB 116 [] mixed Tryd.func116 rfl (fun _ => rfl) (k116 p0 p1)
end Go.Proofs.YtdiagiflihpidaaDoor
namespace Go.Proofs.YtdiagiflihpidaaDoor
open Go Go.EV
set_option maxRecDepth 100000
def natC (p0 : SNat) : List V := [.int .i64 p0.fMapping, .int .i64 p0.fFilter, .int .i64 p0.fTimeout, .bool p0.fHairpin, .str p0.fHost, .int .i64 p0.fLow, .int .i64 p0.fHigh, .int .i64 p0.fNow, .sl false 7 (List.map tySBinding.c p0.fTable)]
def cRange : Code → Code
 | .seq _ (.scope (.seq _ (.seq (.seq _ (.block _ c)) _))) => c
 | _ => .skip
def rAssign : Code → Code
 | .rangeFunc _ _ a _ => a
 | _ => .skip
def rBody : Code → Code
 | .rangeFunc _ _ _ b => b
 | _ => .skip
def frTs : List (Nat × V) := [(2, .ptr 1000002 0 0), (4, .ptr 1000004 0 0), (5, .ptr 1000005 0 0), (11, .fn 127 [] [.ptr 1000031 0 0, .ptr 1000032 0 0])]
def allBs (p0 : SNat) (p : Int) (ok : Bool) (cur : Int) : List (Nat × Blk) := [(1000002, ⟨1, true, [[.snap (natC p0)]]⟩), (1000004, ⟨1, true, [[.int .i64 p]]⟩), (1000005, ⟨1, true, [[.bool ok]]⟩), (1000031, ⟨1, true, [[.int .i64 cur]]⟩), (1000032, ⟨1, true, [[.snap (natC p0)]]⟩)]
def gRound (p0 : SNat) (p : Int) : TT Bool :=
 .bind2 2
 (.lp (fun (i : Int) => Ext.lit .normal (frTs ++ [(6, .int .i64 p), (17, .sl false 7 (List.map tySBinding.c p0.fTable)), (18, .int .i64 (mlen tySBinding p0.fTable)), (19, .int .i64 i)]) (allBs p0 0 false p))
  (fun i =>
   .br 0 (decide (i < mlen tySBinding p0.fTable))
   (.row 5001 tySBinding p0.fTable i.toNat (decide (0 ≤ i)) fun x =>
    .br 0 (x.fPort == p)
    (.done (.inr (.inl ())))
    (.done (.inl (wi64 (i + 1)))))
   (.done (.inr (.inr ()))))
  0)
 (fun (_ : Unit) => Ext.lit (.exit 1) [] (allBs p0 0 false p))
 (fun (_ : Unit) => Ext.lit (.exit 2) (frTs ++ [(6, .int .i64 p)]) (allBs p0 0 false p))
 (fun _ => .done true)
 (fun _ => .done false)
def xRound (p0 : SNat) (p : Int) : Ext := Ext.lit .normal (frTs ++ [(6, .int .i64 p)]) (allBs p0 0 false p)
def eRound (p0 : SNat) (p : Int) : Bool → Ext := fun r => bif r then Ext.lit .normal [] (allBs p0 0 false p) else Ext.lit .ret [] (allBs p0 p true p)
theorem kRound (p0 : SNat) (p : Int) : Piece Tryd.prog GG [2, 4, 5, 6, 8, 17, 18, 19, 20, 26] 29 (rBody (cRange (Tryd.f87.body.getD .skip))) (xRound p0 p) (gRound p0 p) (eRound p0 p) := by
 unfold Piece; kernel_rfl
def xAssign (p0 : SNat) (p : Int) : Ext := Ext.lit .normal ((12, .int .i64 p) :: frTs) (allBs p0 0 false p)
theorem kAssign (p0 : SNat) (p : Int) : Piece Tryd.prog GG [2, 4, 5, 6, 11] 29 (rAssign (cRange (Tryd.f87.body.getD .skip))) (xAssign p0 p) (.done () : TT Unit) (fun _ => xRound p0 p) := by
 unfold Piece; kernel_rfl
def rOut (p0 : SNat) (p : Int) (r : Bool) (e : Exit) (b : Nat → Option Blk) : Prop :=
 bif r then e = .normal ∧ b = ofL (allBs p0 0 false p) else e = .ret ∧ b = ofL (allBs p0 p true p)
theorem round87 (p0 : SNat) (p : Int) {r : Bool} (hr : (gRound p0 p).run = some r) :
  RoundT Tryd.prog GG 29 (tOf frTs) [12] (rAssign (cRange (Tryd.f87.body.getD .skip))) (rBody (cRange (Tryd.f87.body.getD .skip))) (ofL (allBs p0 0 false p)) [.int .i64 p] (rOut p0 p r) := by
 refine ⟨((xRound p0 p).D 29).st, ?_, ?_⟩
 ·have h := (kAssign p0 p).tv mixed (r := ()) rfl (by rfl)
  have e : ((xAssign p0 p).D 29).st = setP (susp 29 (tOf frTs) (ofL (allBs p0 0 false p))) ([12].zip [.int .i64 p]) := by
   rw [ext_susp (by rfl)]
   exact (setP_susp 29 frTs _ 12 (.int .i64 p)).symm
  rw [e] at h
  exact h
 ·refine ((kRound p0 p).tv mixed hr (by cases r <;> rfl)).mono fun e s hg => ?_
  obtain ⟨rfl, g⟩ := hg
  cases r with
  | true => exact ⟨ofL (allBs p0 0 false p), 29, ⟨rfl, rfl⟩, by rw [ext_susp (by rfl)] at g; exact g⟩
  | false => exact ⟨ofL (allBs p0 p true p), 29, ⟨rfl, rfl⟩, by rw [ext_susp (by rfl)] at g; exact g⟩
def itArgs (l : Nat) : List V := [.yld l, .ptr 1000031 0 0, .ptr 1000032 0 0]
def itSize (p0 : SNat) : Int := wi64 ((wi64 (p0.fHigh - p0.fLow)) + 1)
def itTs (p0 : SNat) (l : Nat) (k : Int) : List (Nat × V) := argTs (itArgs l) ++ [(36, .int .i64 (itSize p0)), (37, .int .i64 k)]
def xI0 (p0 : SNat) (l : Nat) (cur : Int) : Ext := Ext.lit .normal (argTs (itArgs l)) (allBs p0 0 false cur)
def xI (p0 : SNat) (l : Nat) (cur k : Int) : Ext := Ext.lit .normal (itTs p0 l k) (allBs p0 0 false cur)
def xI3 (p0 : SNat) (l : Nat) (cur k : Int) : Ext := Ext.lit .normal (itTs p0 l k ++ [(38, .bool (decide (k < itSize p0)))]) (allBs p0 0 false cur)
def xI4 (p0 : SNat) (l : Nat) (cur k : Int) : Ext := Ext.lit .normal (itTs p0 l k ++ [(39, .yld l), (40, .int .i64 cur)]) (allBs p0 0 false cur)
noncomputable def c127 : Code := Tryd.f127.body.getD .skip
def cL : Code → Code
 | .seq x _ => x
 | _ => .skip
def cR : Code → Code
 | .seq _ y => y
 | _ => .skip
def cB : Code → Code
 | .block _ y => y
 | .loop y => y
 | _ => .skip
def gI0 (p0 : SNat) (own : Int) : TT Int :=
 .cnd 0 [19]
 (.br 9 (decide (own < p0.fLow)) (.done true) (.done (decide (p0.fHigh < own))))
 (fun (c : Bool) => [.bool c]) fun c =>
 .br 0 c (.done p0.fLow) (.done own)
theorem kI0 (p0 : SNat) (l : Nat) (own : Int) : Piece Tryd.prog GG [0, 1, 2, 19] 58 (cL c127) (xI0 p0 l own) (gI0 p0 own) (fun c => xI0 p0 l c) := by
 unfold Piece; kernel_rfl
theorem kI1 (p0 : SNat) (l : Nat) (cur : Int) : Piece Tryd.prog GG [0, 1, 2, 36, 37] 58 (cL (cR c127)) (xI0 p0 l cur) (.done () : TT Unit) (fun _ => xI p0 l cur 0) := by
 unfold Piece; kernel_rfl
noncomputable def cLp : Code := cB (cB (cR (cR c127)))
theorem kI3 (p0 : SNat) (l : Nat) (cur k : Int) : Piece Tryd.prog GG [0, 1, 2, 36, 37, 38] 58 (cL cLp) (xI p0 l cur k) (.done () : TT Unit) (fun _ => xI3 p0 l cur k) := by
 unfold Piece; kernel_rfl
def gI5 (p0 : SNat) (cur : Int) : TT Int :=
 .br 0 (decide (p0.fHigh < wi64 (cur + 1))) (.done p0.fLow) (.done (wi64 (cur + 1)))
theorem kI5 (p0 : SNat) (l : Nat) (cur k : Int) : Piece Tryd.prog GG [0, 1, 2, 36, 37, 51] 58 (cR (cB (cL (cR (cR cLp))))) (xI p0 l cur k) (gI5 p0 cur) (fun c => xI p0 l c k) := by
 unfold Piece; kernel_rfl
theorem kI8 (p0 : SNat) (l : Nat) (cur k : Int) : Piece Tryd.prog GG [0, 1, 2, 36, 37] 58 (cR (cR (cR cLp))) (xI p0 l cur k) (.done () : TT Unit) (fun _ => xI p0 l cur (wi64 (k + 1))) := by
 unfold Piece; kernel_rfl
def itStep (p0 : SNat) (y : Int × Int) : Option ((Int × Int) ⊕ Option Int) :=
 bif decide (y.2 < itSize p0) then
  match (gRound p0 y.1).run with
  | none => none
  | some r => bif r then (match (gI5 p0 y.1).run with | some c => some (.inl (c, wi64 (y.2 + 1))) | none => none) else some (.inr (some y.1))
 else some (.inr none)
def freeM (p0 : SNat) (own : Int) : Option (Option Int) :=
 match (gI0 p0 own).run with
 | none => none
 | some c => iter (itStep p0) FUEL (c, 0)
def outM (p0 : SNat) (r : Option Int) (e : Exit) (b : Nat → Option Blk) : Prop :=
 match r with
 | none => e = .normal ∧ ∃ cur, b = ofL (allBs p0 0 false cur)
 | some p => e = .ret ∧ ∃ cur, b = ofL (allBs p0 p true cur)
noncomputable def fL : YL := ⟨29, tOf frTs, #[12], rAssign (cRange (Tryd.f87.body.getD .skip)), rBody (cRange (Tryd.f87.body.getD .skip))⟩
def rOps : Code → Array Oper
 | .region _ o _ => o
 | _ => #[]
noncomputable def ops4 : Array Oper := rOps (cL (cL (cB (cL (cR (cR cLp))))))
theorem e1 : c127 = .seq (cL c127) (cR c127) := by kernel_rfl
theorem e2 : cR c127 = .seq (cL (cR c127)) (.block 0 (.loop cLp)) := by kernel_rfl
theorem e4 : cLp = .seq (cL cLp) (.seq (.cond (.tmp 38) .skip (.exit 0)) (.seq (.block 1 (.seq (.seq (.region 4 ops4 false) (.cond (.tmp 42) .ret .skip)) (cR (cB (cL (cR (cR cLp))))))) (cR (cR (cR cLp))))) := by kernel_rfl
theorem iter_succ {σ ε : Type} (f : σ → Option (σ ⊕ ε)) (m : Nat) (x : σ) : iter f (m + 1) x = (match f x with | none => none | some (.inl z) => iter f m z | some (.inr e) => some e) := by
 cases h : f x with
 | none => simp only [iter, h]
 | some y => cases y <;> simp only [iter, h]
theorem Gst.same {G : Nat → Option (List V)} (st : St) : Gst G st st := fun γ _ w hs => ⟨γ, hs, .refl γ w, .refl hs.u⟩
theorem find_b {l : List (Nat × Blk)} {b : Nat} {k : Blk} (h : ofL l b = some k) : ∃ q, q ∈ l ∧ q.1 = b ∧ q.2 = k := by
 unfold ofL at h
 split at h
 ·rename_i q hq
  exact ⟨q, List.mem_of_find?_eq_some hq, by simpa using List.find?_some hq, Option.some.inj h⟩
 ·simp at h
theorem Gst.ext {G : Nat → Option (List V)} {st : St} (x : Ext) {n : Nat} (hn : n = st.n) (ht : x.ts.map (fun p => st.t p.1) = x.ts.map (·.2)) (hto : x.ts.all (fun p => okV (stOf n x.ts x.bs x.us).u p.2) = true)
  (hb : x.bs.map (fun p => st.b p.1) = x.bs.map (fun p => some p.2)) (hbu : x.bs.all (fun p => (stOf n x.ts x.bs x.us).u p.1) = true) (hbo : (x.bs.all fun q => q.2.rows.all fun r => r.all fun c => okV (stOf n x.ts x.bs x.us).u c) = true) : Gst G st (x.D n).st :=
 Gst.forget (forget_to hn ht hto hb hbu fun q hq r hr c hc => List.all_eq_true.1 (List.all_eq_true.1 (List.all_eq_true.1 hbo q hq) r hr) c hc)
theorem iter127 (p0 : SNat) (own : Int) {r : Option Int} (h : freeM p0 own = some r) :
  IterT Tryd.prog GG c127 58 itArgs (ofL (allBs p0 0 false own)) fL (outM p0 r) := by
 refine IterT.of fun l => ?_
 unfold freeM at h
 split at h
 ·simp at h
 rename_i c hc
 have e0 : entry 58 (itArgs l) (ofL (allBs p0 0 false own)) = ((xI0 p0 l own).D 58).st := (entry_ext (x := xI0 p0 l own) (by rfl) (by rfl) 58).symm
 rw [e0, e1]
 refine YT.seq (YT.piece (kI0 p0 l own) mixed hc (by rfl) fun s g => ?_)
 show YT _ _ _ _ _ _ _
 refine YT.gst g ?_
 rw [e2]
 refine YT.seq (YT.piece (kI1 p0 l c) mixed (r := ()) rfl (by rfl) fun s g => ?_)
 show YT _ _ _ _ _ _ _
 refine YT.gst g (YT.block ?_)
 refine YT.loop (fun m s => s.x = .normal ∧ ∃ y : Int × Int, Gst GG s.st ((xI p0 l y.1 y.2).D 58).st ∧ iter (itStep p0) m y = some r) (fun m s hI => ?_) (n := FUEL) ⟨rfl, (c, 0), Gst.same _, h⟩
 obtain ⟨x, st⟩ := s
 obtain ⟨rfl, ⟨cur, k⟩, g, hit⟩ := hI
 refine YT.gst g ?_
 cases m with
 | zero => simp [iter] at hit
 | succ m =>
  rw [iter_succ] at hit
  rw [e4]
  refine YT.seq (YT.piece (kI3 p0 l cur k) mixed (r := ()) rfl (by rfl) fun s g => ?_)
  show YT _ _ _ _ _ _ _
  refine YT.gst g ?_
  have done : ∀ (x : Ext), (x.bs.all fun p => decide (1000000 ≤ p.1)) = true → ((x.D 58).st = susp 58 (tOf x.ts) (ofL x.bs)) := fun x hx => ext_susp hx 58
  cases hk : decide (k < itSize p0) with
  | false =>
   have hs : itStep p0 (cur, k) = some (.inr none) := by
    show (bif decide (k < itSize p0) then _ else _) = _
    rw [hk]; rfl
   rw [hs] at hit
   obtain rfl : none = r := Option.some.inj hit
   refine YT.seq (YT.cond (b := false) ?_ (YT.exit ?_))
   ·show some (V.bool (decide (k < itSize p0))) = _
    rw [hk]
   ·refine ⟨.inl rfl, 58, tOf (xI3 p0 l cur k).ts, ofL (xI3 p0 l cur k).bs, ?_, rfl, cur, rfl⟩
    show Gst GG ((xI3 p0 l cur k).D 58).st _
    rw [done (xI3 p0 l cur k) (by rfl)]
    exact Gst.same _
  | true =>
   have hs : itStep p0 (cur, k) = (match (gRound p0 cur).run with | none => none | some r => bif r then (match (gI5 p0 cur).run with | some c => some (.inl (c, wi64 (k + 1))) | none => none) else some (.inr (some cur))) := by
    show (bif decide (k < itSize p0) then _ else _) = _
    rw [hk]; rfl
   rw [hs] at hit
   cases hr : (gRound p0 cur).run with
   | none => rw [hr] at hit; simp at hit
   | some taken =>
    rw [hr] at hit
    refine YT.seq (YT.cond (b := true) ?_ (YT.skip ?_))
    ·show some (V.bool (decide (k < itSize p0))) = _
     rw [hk]
    show YT _ _ _ _ _ _ _
    refine YT.seq (YT.block (YT.seq (YT.seq (YT.region ?_))))
    show YTops _ _ _ _ _ [0, 1, 2, 3] _ _
    refine YTops.step rfl (YTops.step rfl (YTops.gst (st' := ((xI4 p0 l cur k).D 58).st) ?_ ?_))
    ·exact Gst.ext (xI4 p0 l cur k) rfl rfl (by rfl) rfl (by rfl) (by rfl)
    rw [done (xI4 p0 l cur k) (by rfl)]
    refine YTops.yield (hi := rfl) rfl rfl rfl rfl rfl rfl rfl ?_ ?_ ?_ rfl (round87 p0 cur hr) ?_ ?_
    ·exact fun i => tOf_ok (by rfl) i
    ·exact fun i => tOf_ok (by rfl) i
    ·intro p hp
     have : p ∈ [12] := hp
     simp at this
     subst this
     exact (by decide : 12 < 29)
    ·intro e b' h
     unfold rOut at h
     cases taken with
     | true => exact .inl h.1
     | false => exact .inr (.inl h.1)
    ·intro e b' h
     unfold rOut at h
     cases taken with
     | true =>
      obtain ⟨rfl, rfl⟩ := h
      simp only [cond_true] at hit
      cases h5 : (gI5 p0 cur).run with
      | none => rw [h5] at hit; simp at hit
      | some c5 =>
       rw [h5] at hit
       refine YTops.step rfl (YTops.nil ?_)
       show YT _ _ _ _ _ _ _
       refine YT.cond (b := false) rfl (YT.skip ?_)
       show YT _ _ _ _ _ _ _
       refine YT.gst (st' := ((xI p0 l cur k).D 58).st) ?_ (YT.piece (kI5 p0 l cur k) mixed h5 (by rfl) fun s g => ?_)
       ·exact Gst.ext (xI p0 l cur k) rfl rfl (by rfl) rfl (by rfl) (by rfl)
       ·show YT _ _ _ _ _ _ _
        refine YT.gst g (YT.piece (kI8 p0 l c5 k) mixed (r := ()) rfl (by rfl) fun s g => ?_)
        exact ⟨m, Nat.lt_succ_self m, rfl, (c5, wi64 (k + 1)), g, hit⟩
     | false =>
      obtain ⟨rfl, rfl⟩ := h
      simp only [cond_false, Option.some.injEq] at hit
      subst hit
      refine YTops.step rfl (YTops.nil ?_)
      show YT _ _ _ _ _ _ _
      refine YT.cond (b := true) rfl (YT.ret ?_)
      exact ⟨.inr rfl, 58, _, _, Gst.same _, rfl, cur, rfl⟩
noncomputable def c87 : Code := Tryd.f87.body.getD .skip
def cS : Code → Code
 | .scope y => y
 | _ => .skip
def fTs : List (Nat × V) := [(2, .ptr 2 0 0), (4, .ptr 4 0 0), (5, .ptr 5 0 0)]
def fBs (p0 : SRouter) (p : Int) (ok : Bool) : List (Nat × Blk) := [(2, ⟨1, true, [[.snap (natC p0.fNat)]]⟩), (4, ⟨1, true, [[.int .i64 p]]⟩), (5, ⟨1, true, [[.bool ok]]⟩)]
def xF (p0 : SRouter) (own : Int) : Ext := Ext.lit .normal (argTs [.snap (natC p0.fNat), .int .i64 own]) []
def xF0 (p0 : SRouter) (own : Int) : Ext := Ext.lit .normal ((1, .int .i64 own) :: fTs) (fBs p0 0 false)
def xF1 (p0 : SRouter) (own : Int) : Ext := Ext.lit .normal (fTs ++ [(11, .fn 127 [] [.ptr 31 0 0, .ptr 32 0 0])]) (fBs p0 0 false ++ [(31, ⟨1, true, [[.int .i64 own]]⟩), (32, ⟨1, true, [[.snap (natC p0.fNat)]]⟩)])
def xF9 (p0 : SRouter) (e : Exit) (p : Int) (ok : Bool) : Ext := Ext.lit e fTs (fBs p0 p ok)
theorem kF0 (p0 : SRouter) (own : Int) : Piece Tryd.prog GG [1, 2, 4, 5] 29 (cL c87) (xF p0 own) (.done () : TT Unit) (fun _ => xF0 p0 own) := by
 unfold Piece; kernel_rfl
theorem kF1 (p0 : SRouter) (own : Int) : Piece Tryd.prog GG [1, 2, 4, 5, 11] 29 (cL (cL (cR (cS (cR c87))))) (xF0 p0 own) (.call 1003 (s116 p0 own) [] [(2, 32), (3, 31)] fun _ => .done () : TT Unit) (fun _ => xF1 p0 own) := by
 unfold Piece; kernel_rfl
theorem kF9 (p0 : SRouter) : Piece Tryd.prog GG [2, 4, 5] 29 (cR (cR (cS (cR c87)))) (xF9 p0 .normal 0 false) (.done () : TT Unit) (fun _ => xF9 p0 .ret 0 false) := by
 unfold Piece; kernel_rfl
theorem e87 : c87 = .seq (cL c87) (.scope (.seq (.label 0) (.seq (.seq (cL (cL (cR (cS (cR c87))))) (.block 0 (.rangeFunc (.tmp 11) #[12] (rAssign (cRange (Tryd.f87.body.getD .skip))) (rBody (cRange (Tryd.f87.body.getD .skip)))))) (cR (cR (cS (cR c87))))))) := by kernel_rfl
theorem h127 : Tryd.f127.body = some c127 := by kernel_rfl
theorem h127b : (Tryd.f127.name == "runtime.NumGoroutine") = false := by kernel_rfl
theorem h127c : Tryd.f127.results = #[] := by kernel_rfl
theorem h127d : max Tryd.f127.ntmps (1 + 2) = 58 := by kernel_rfl
theorem bs87 (p0 : SRouter) (own : Int) : shB ((xF1 p0 own).D 29).st.b = ofL (allBs p0.fNat 0 false own) := by
 have : ((xF1 p0 own).D 29).st.b = ofL (xF1 p0 own).bs := rfl
 rw [this, shB_ofL]
 have : ((xF1 p0 own).bs.map fun p => (sh p.1, p.2.ren sh)) = allBs p0.fNat 0 false own := by kernel_rfl
 rw [this]
def fBs2 (p0 : SRouter) (p : Int) (ok : Bool) (cur : Int) : List (Nat × Blk) := fBs p0 p ok ++ [(31, ⟨1, true, [[.int .i64 cur]]⟩), (32, ⟨1, true, [[.snap (natC p0.fNat)]]⟩)]
theorem fin87 (p0 : SRouter) (p : Int) (ok : Bool) (cur : Int) : shB (ofL (fBs2 p0 p ok cur)) = ofL (allBs p0.fNat p ok cur) := by
 rw [shB_ofL]
 have : ((fBs2 p0 p ok cur).map fun p => (sh p.1, p.2.ren sh)) = allBs p0.fNat p ok cur := by kernel_rfl
 rw [this]
theorem known_of {n : Nat} {ts : List (Nat × V)} {bs : List (Nat × Blk)} {us : List Nat} (ht : (ts.all fun p => (refsV p.2).all (stOf n ts bs us).u) = true) (hb : (bs.all fun p => (stOf n ts bs us).u p.1 && (refsL p.2.rows.flatten).all (stOf n ts bs us).u) = true) : (stOf n ts bs us).known where
 t := fun i b hm => by
  have hm' : b ∈ refsV (tOf ts i) := hm
  unfold tOf at hm'
  cases hf : ts.find? (fun p => p.1 == i) with
  | none => rw [hf] at hm'; simp [refsV] at hm'
  | some p => rw [hf] at hm'; exact List.all_eq_true.1 (List.all_eq_true.1 ht p (List.mem_of_find?_eq_some hf)) b hm'
 b := fun i k hk => by
  obtain ⟨q, h1, rfl, rfl⟩ := find_b (show ofL bs i = some k from hk)
  have := List.all_eq_true.1 hb q h1
  simp only [Bool.and_eq_true] at this
  exact ⟨this.1, fun b hm => List.all_eq_true.1 this.2 b hm⟩
theorem loop87 (p0 : SRouter) (own : Int) {r : Option Int} (h : freeM p0.fNat own = some r) :
  TV Tryd.prog GG (.rangeFunc (.tmp 11) #[12] (rAssign (cRange (Tryd.f87.body.getD .skip))) (rBody (cRange (Tryd.f87.body.getD .skip)))) ((xF1 p0 own).D 29).st
   (fun e s => match r with | none => e = .normal ∧ Gst GG s ((xF9 p0 .normal 0 false).D 29).st | some p => e = .ret ∧ Gst GG s ((xF9 p0 .ret p true).D 29).st) := by
 have ht : (fun i => renV sh (((xF1 p0 own).D 29).st.t i)) = tOf frTs := by
  have : ((xF1 p0 own).D 29).st.t = tOf (xF1 p0 own).ts := rfl
  rw [this, tOf_shift]
  have : ((xF1 p0 own).ts.map fun p => (p.1, renV sh p.2)) = frTs := by kernel_rfl
  rw [this]
 have it := iter127 p0.fNat own h
 refine TV.range (f := 127) (fi := Tryd.f127) (c := c127) (caps := [.ptr 1000031 0 0, .ptr 1000032 0 0]) (R := outM p0.fNat r) ?_ Tryd.func127 h127 h127b h127c ?_ ?_ ?_
 ·show some ((fun i => renV sh (((xF1 p0 own).D 29).st.t i)) 11) = _
  rw [ht]; rfl
 ·intro b k hk
  exact ((known_of (n := 29) (ts := (xF1 p0 own).ts) (bs := (xF1 p0 own).bs) (us := (xF1 p0 own).us) (by rfl) (by rfl)).b b k hk).1
 ·rw [ht, bs87]
  have e : max Tryd.f127.ntmps (1 + [V.ptr 1000031 0 0, V.ptr 1000032 0 0].length) = 58 := h127d
  rw [e]
  exact it
 ·intro e b' ho
  have key : ∀ (p : Int) (ok : Bool) (e : Exit) (cur : Int), (stOf 29 (xF1 p0 own).ts (fBs2 p0 p ok cur) (xF1 p0 own).us).known ∧ Gst GG (stOf 29 (xF1 p0 own).ts (fBs2 p0 p ok cur) (xF1 p0 own).us) ((xF9 p0 e p ok).D 29).st := fun p ok e cur =>
   ⟨known_of (by rfl) (by rfl), Gst.ext (xF9 p0 e p ok) rfl rfl (by rfl) rfl (by rfl) (by rfl)⟩
  unfold outM at ho
  cases r with
  | none =>
   obtain ⟨rfl, cur, rfl⟩ := ho
   exact ⟨.inl rfl, ofL (fBs2 p0 0 false cur), (fin87 p0 0 false cur).symm, (key 0 false .normal cur).1, rfl, (key 0 false .normal cur).2⟩
  | some p =>
   obtain ⟨rfl, cur, rfl⟩ := ho
   exact ⟨.inr (.inl rfl), ofL (fBs2 p0 p true cur), (fin87 p0 p true cur).symm, (key p true .ret cur).1, rfl, (key p true .ret cur).2⟩
theorem free87 (p0 : SRouter) (own : Int) {r : Option Int} (h : freeM p0.fNat own = some r) : CallC Tryd.prog GG 87 [.snap (natC p0.fNat), .int .i64 own] (ofL []) (.tup [.int .i64 (r.getD 0), .bool r.isSome]) (ofL []) := by
 have hb : Tryd.f87.body = some c87 := by kernel_rfl
 refine callC_of_TV (n := 29) Tryd.func87 hb (by kernel_rfl) rfl ?_
 have e0 : entry 29 [.snap (natC p0.fNat), .int .i64 own] (ofL []) = ((xF p0 own).D 29).st := (entry_ext (x := xF p0 own) (by rfl) (by rfl) 29).symm
 rw [e0]
 refine TV.rel (Q' := fun e s => e = .ret ∧ Gst GG s ((xF9 p0 .ret (r.getD 0) r.isSome).D 29).st) ?_ fun e s hq => ?_
 ·rw [e87]
  refine TV.seq (TV.piece (kF0 p0 own) mixed (r := ()) rfl (by rfl) fun s g => ?_)
  refine TV.ghost g (TV.scope ?_ (by rintro l st ⟨h, _⟩; cases h))
  refine TV.seq (TV.label ?_)
  refine TV.seq (TV.seq (TV.piece (kF1 p0 own) mixed (r := ()) rfl (by rfl) fun s g => ?_))
  refine TV.ghost g (TV.block ((loop87 p0 own h).mono fun e s hs => ?_))
  cases r with
  | none =>
   obtain ⟨rfl, g⟩ := hs
   exact TV.ghost g (TV.piece (kF9 p0) mixed (r := ()) rfl (by rfl) fun s g => ⟨rfl, g⟩)
  | some p =>
   obtain ⟨rfl, g⟩ := hs
   exact ⟨rfl, g⟩
 ·obtain ⟨rfl, g⟩ := hq
  exact Rel.ghost g (Rel.of ⟨.inr rfl, rfl, fun b k hk => by simp [ofL] at hk⟩)
noncomputable def s87 (p0 : SRouter) (own : Int) : EV.Spec Tryd.prog GG (Option Int) :=
 ⟨87, [.snap (natC p0.fNat), .int .i64 own], [], freeM p0.fNat own, fun r => .tup [.int .i64 (r.getD 0), .bool r.isSome], fun _ => [], [], fun _ _ h => by simp at h, fun _ h => free87 p0 own h⟩
end Go.Proofs.YtdiagiflihpidaaDoor
namespace Go.Proofs.YtdiagiflihpidaaDoor
open Go Go.EV
set_option maxRecDepth 100000
noncomputable def g80 (p0 : Int) : TT (Bool) :=
 .cnd 1 [2]
 (.br 1004 (decide ((1 : Int) ≤ p0))
  (.done (decide (p0 ≤ 3)))
  (.done false))
 (fun (c1 : Bool) => [.bool c1]) fun c1 =>
 .done c1
theorem k80 (p0 : Int) : FnD Tryd.prog GG [0, 2] Tryd.f80 [.int .i64 p0] (g80 p0) (fun r => .bool r) := by unfold FnD; kernel_rfl
noncomputable def s80 (p0 : Int) : EV.Spec Tryd.prog GG (Bool) := .ofFn 80 mixed Tryd.func80 (k80 p0)
noncomputable def g118 (p0 : ByteArray) : TT (SHost × Int) :=
 .cnd 1 [11]
 (.br 1005 ((p0.size : Int) != 4)
  (.done ((p0.size : Int) != 16))
  (.done false))
 (fun (c8 : Bool) => [.bool c8]) fun c8 =>
 .br 0 c8
 (.done ((SHost.mk ByteArray.empty), 2))
 (.done ((SHost.mk p0), 0))
theorem k118 (p0 : ByteArray) : FnD Tryd.prog GG [0, 2, 3, 11] Tryd.f118 [.str p0] (g118 p0) (fun r => .tup [.agg [.str r.1.fs], .int .i64 r.2]) := by unfold FnD; kernel_rfl
noncomputable def s118 (p0 : ByteArray) : EV.Spec Tryd.prog GG (SHost × Int) := .ofFn 118 mixed Tryd.func118 (k118 p0)
noncomputable def g94 (p0 : SAddr) : TT (Int) :=
 .call 1003 (s118 p0.fHost) [] [] fun r9 =>
 .cnd 2 [22]
 (.br 2004 (r9.2 != 0)
  (.done true)
  (.br 2009 (decide (p0.fPort < 0))
   (.done true)
   (.done (decide ((65535 : Int) < p0.fPort)))))
 (fun (c10 : Bool) => [.bool c10]) fun c10 =>
 .br 0 c10
 (.done 2)
 (.done 0)
theorem k94 (p0 : SAddr) : FnD Tryd.prog GG [0, 1, 2, 4, 22] Tryd.f94 [.agg [.str p0.fHost, .int .i64 p0.fPort]] (g94 p0) (fun r => .int .i64 r) := by unfold FnD; kernel_rfl
noncomputable def s94 (p0 : SAddr) : EV.Spec Tryd.prog GG (Int) := .ofFn 94 mixed Tryd.func94 (k94 p0)
noncomputable def g84 (p0 : SRouter) (p1 : SAddr) : TT (Bool) :=
 .cnd 1 [4]
 (.call 1002 (s94 p1) [] [] fun r11 =>
  .br 1005 (r11 == 0)
  (.br 1010 (decide ((1 : Int) ≤ p1.fPort))
   (.done ((p1.fHost.size : Int) == (p0.fNat.fHost.size : Int)))
   (.done false))
  (.done false))
 (fun (c12 : Bool) => [.bool c12]) fun c12 =>
 .done c12
theorem k84 (p0 : SRouter) (p1 : SAddr) : FnD Tryd.prog GG [0, 1, 3, 4] Tryd.f84 [.snap [.int .i64 p0.fNat.fMapping, .int .i64 p0.fNat.fFilter, .int .i64 p0.fNat.fTimeout, .bool p0.fNat.fHairpin, .str p0.fNat.fHost, .int .i64 p0.fNat.fLow, .int .i64 p0.fNat.fHigh, .int .i64 p0.fNat.fNow, .sl false 7 (List.map tySBinding.c p0.fNat.fTable)], .agg [.str p1.fHost, .int .i64 p1.fPort]] (g84 p0 p1) (fun r => .bool r) := by unfold FnD; kernel_rfl
noncomputable def s84 (p0 : SRouter) (p1 : SAddr) : EV.Spec Tryd.prog GG (Bool) := .ofFn 84 mixed Tryd.func84 (k84 p0 p1)
noncomputable def g111 (p0 : SRouter) (p1 : Int) (p2 : SAddr) : TT (Bool) :=
 .br 0 (p1 == 1)
 (.done ((decide (p2.fHost = ByteArray.empty)) && ((p2.fPort == 0) && true)))
 (.br 0 (p1 == 2)
  (.cnd 5 [6]
   (.br 5005 (p2.fPort == 0)
    (.call 5009 (s84 p0 (SAddr.mk p2.fHost 1)) [] [] fun r14 =>
     .done r14)
    (.done false))
   (fun (c15 : Bool) => [.bool c15]) fun c15 =>
   .done c15)
  (.call 6003 (s84 p0 p2) [] [] fun r16 =>
   .done r16))
theorem k111 (p0 : SRouter) (p1 : Int) (p2 : SAddr) : FnD Tryd.prog GG [0, 1, 2, 5, 6, 7, 8, 13] Tryd.f111 [.snap [.int .i64 p0.fNat.fMapping, .int .i64 p0.fNat.fFilter, .int .i64 p0.fNat.fTimeout, .bool p0.fNat.fHairpin, .str p0.fNat.fHost, .int .i64 p0.fNat.fLow, .int .i64 p0.fNat.fHigh, .int .i64 p0.fNat.fNow, .sl false 7 (List.map tySBinding.c p0.fNat.fTable)], .int .i64 p1, .agg [.str p2.fHost, .int .i64 p2.fPort]] (g111 p0 p1 p2) (fun r => .bool r) := by unfold FnD; kernel_rfl
noncomputable def s111 (p0 : SRouter) (p1 : Int) (p2 : SAddr) : EV.Spec Tryd.prog GG (Bool) := .ofFn 111 mixed Tryd.func111 (k111 p0 p1 p2)
noncomputable def g113 (p0 : SAddr) (p1 : SRouter) : TT (Bool) :=
 .call 1008 (s111 p1 p1.fNat.fFilter p0) [] [] fun r21 =>
 .done r21
theorem k113 (p0 : SAddr) (p1 : SRouter) : FnD Tryd.prog GG [0, 1, 2, 3] Tryd.f113 [.agg [.str p0.fHost, .int .i64 p0.fPort], .snap [.snap [.int .i64 p1.fNat.fMapping, .int .i64 p1.fNat.fFilter, .int .i64 p1.fNat.fTimeout, .bool p1.fNat.fHairpin, .str p1.fNat.fHost, .int .i64 p1.fNat.fLow, .int .i64 p1.fNat.fHigh, .int .i64 p1.fNat.fNow, .sl false 7 (List.map tySBinding.c p1.fNat.fTable)]]] (g113 p0 p1) (fun r => .bool r) := by unfold FnD; kernel_rfl
noncomputable def s113 (p0 : SAddr) (p1 : SRouter) : EV.Spec Tryd.prog GG (Bool) := .ofFn 113 mixed Tryd.func113 (k113 p0 p1)
noncomputable def g114 (p0 : SAddr) (p1 : SAddr) : TT (Bool) :=
 .done ((decide (p0.fHost = p1.fHost)) && ((p0.fPort == p1.fPort) && true))
theorem k114 (p0 : SAddr) (p1 : SAddr) : FnD Tryd.prog GG [0, 1, 2, 3, 4] Tryd.f114 [.agg [.str p0.fHost, .int .i64 p0.fPort], .agg [.str p1.fHost, .int .i64 p1.fPort]] (g114 p0 p1) (fun r => .bool r) := by unfold FnD; kernel_rfl
noncomputable def s114 (p0 : SAddr) (p1 : SAddr) : EV.Spec Tryd.prog GG (Bool) := .ofFn 114 mixed Tryd.func114 (k114 p0 p1)
noncomputable def g126 (p0 : SAddr) (p1 : SAddr) : TT (Bool) :=
 .call 1004 (s114 p1 p0) [] [] fun r25 =>
 .done r25
theorem k126 (p0 : SAddr) (p1 : SAddr) : FnD Tryd.prog GG [0, 1, 2, 3, 4] Tryd.f126 [.agg [.str p0.fHost, .int .i64 p0.fPort], .snap [.fn 114 [] []], .snap [.str p1.fHost, .int .i64 p1.fPort]] (g126 p0 p1) (fun r => .bool r) := by unfold FnD; kernel_rfl
noncomputable def s126 (p0 : SAddr) (p1 : SAddr) : EV.Spec Tryd.prog GG (Bool) := .ofFn 126 mixed Tryd.func126 (k126 p0 p1)
noncomputable def g128 (p0 : (List SAddr)) (p1 : SAddr) : TT (Int) :=
 .bind2 1
 (.lp (fun (l26 : Int) => Ext.lit .normal [(0, .sl false 2 (List.map tySAddr.c p0)), (1, .fn 126 [] [.snap [.fn 114 [] []], .snap [.str p1.fHost, .int .i64 p1.fPort]]), (4, .int .i64 0), (7, .int .i64 (mlen tySAddr p0)), (8, .int .i64 l26)] [])
  (fun l26 =>
   .br 0 (decide (l26 < (mlen tySAddr p0)))
   (.row 4004 tySAddr p0 l26.toNat (decide (0 ≤ l26)) fun x27 =>
    .call 4006 (s126 x27 p1) [] [] fun r28 =>
    .br 0 r28
    (.done (.inr (.inl l26)))
    (.done (.inl (wi64 (l26 + 1)))))
   (.done (.inr (.inr ()))))
  0)
 (fun (e29 : Int) => Ext.lit .ret [(4, .int .i64 e29)] [])
 (fun (_ : Unit) => Ext.lit (.exit 0) [(4, .int .i64 0)] [])
 (fun e29 =>
  .done e29)
 (fun _ =>
  .done (-1))
theorem k128 (p0 : (List SAddr)) (p1 : SAddr) : FnD Tryd.prog GG [0, 1, 4, 5, 7, 8, 9, 16] Tryd.f128 [.sl false 2 (List.map tySAddr.c p0), .fn 126 [] [.snap [.fn 114 [] []], .snap [.str p1.fHost, .int .i64 p1.fPort]]] (g128 p0 p1) (fun r => .int .i64 r) := by unfold FnD; kernel_rfl
noncomputable def s128 (p0 : (List SAddr)) (p1 : SAddr) : EV.Spec Tryd.prog GG (Int) := .ofFn 128 mixed Tryd.func128 (k128 p0 p1)
noncomputable def g125 (p0 : (List SAddr)) (p1 : SAddr) : TT (Bool) :=
 .call 1003 (s128 p0 p1) [] [] fun r31 =>
 .done (decide ((0 : Int) ≤ r31))
theorem k125 (p0 : (List SAddr)) (p1 : SAddr) : FnD Tryd.prog GG [0, 1, 4] Tryd.f125 [.sl false 2 (List.map tySAddr.c p0), .fn 126 [] [.snap [.fn 114 [] []], .snap [.str p1.fHost, .int .i64 p1.fPort]]] (g125 p0 p1) (fun r => .bool r) := by unfold FnD; kernel_rfl
noncomputable def s125 (p0 : (List SAddr)) (p1 : SAddr) : EV.Spec Tryd.prog GG (Bool) := .ofFn 125 mixed Tryd.func125 (k125 p0 p1)
noncomputable def g112 (p0 : (List SAddr)) (p1 : SRouter) : TT (Bool) :=
 .bind2 1
 (.lp (fun (l24 : Int) => Ext.lit .normal [(0, .sl false 2 (List.map tySAddr.c p0)), (1, .fn 113 [] [.snap [.snap [.int .i64 p1.fNat.fMapping, .int .i64 p1.fNat.fFilter, .int .i64 p1.fNat.fTimeout, .bool p1.fNat.fHairpin, .str p1.fNat.fHost, .int .i64 p1.fNat.fLow, .int .i64 p1.fNat.fHigh, .int .i64 p1.fNat.fNow, .sl false 7 (List.map tySBinding.c p1.fNat.fTable)]]]), (5, .ptr 5 0 0), (6, .bool false), (9, .sl false 2 (List.map tySAddr.c p0)), (10, .int .i64 (mlen tySAddr p0)), (11, .int .i64 l24)] [(5, ⟨1, true, [[.fn 114 [] []]]⟩)])
  (fun l24 =>
   .br 0 (decide (l24 < (mlen tySAddr p0)))
   (.row 3002 tySAddr p0 l24.toNat (decide (0 ≤ l24)) fun x25 =>
    .cnd 4 [26]
    (.call 4003 (s113 x25 p1) [] [] fun r26 =>
     .br 4006 (!r26)
     (.done true)
     (.chk 4008 (decide (0 ≤ l24) && decide (l24 ≤ ((mlenn tySAddr p0) : Int))) (.re 4008 (ReW.cutHi 23 2 tySAddr p0 l24.toNat) (.view 4010 (s125 (p0.take l24.toNat) x25) [] fun r27 =>
      .done r27))))
    (fun (c28 : Bool) => [.bool c28]) fun c28 =>
    .br 0 c28
    (.done (.inr (.inl ())))
    (.done (.inl (wi64 (l24 + 1)))))
   (.done (.inr (.inr ()))))
  0)
 (fun (_ : Unit) => Ext.lit .ret [(6, .bool false)] [])
 (fun (_ : Unit) => Ext.lit (.exit 0) [(6, .bool false)] [])
 (fun _ =>
  .done false)
 (fun _ =>
  .done true)
theorem k112 (p0 : (List SAddr)) (p1 : SRouter) : FnD Tryd.prog GG [0, 1, 2, 5, 6, 7, 8, 9, 10, 11, 12, 26] Tryd.f112 [.sl false 2 (List.map tySAddr.c p0), .fn 113 [] [.snap [.snap [.int .i64 p1.fNat.fMapping, .int .i64 p1.fNat.fFilter, .int .i64 p1.fNat.fTimeout, .bool p1.fNat.fHairpin, .str p1.fNat.fHost, .int .i64 p1.fNat.fLow, .int .i64 p1.fNat.fHigh, .int .i64 p1.fNat.fNow, .sl false 7 (List.map tySBinding.c p1.fNat.fTable)]]], .fn 114 [] []] (g112 p0 p1) (fun r => .bool r) := by unfold FnD; kernel_rfl
noncomputable def s112 (p0 : (List SAddr)) (p1 : SRouter) : EV.Spec Tryd.prog GG (Bool) := .ofFn 112 mixed Tryd.func112 (k112 p0 p1)
noncomputable def g82 (p0 : SRouter) (p1 : SBinding) : TT (Bool) :=
 .cnd 1 [78]
 (.call 1004 (s84 p0 p1.fInside) [] [] fun r13 =>
  .br 1007 (!r13)
  (.done true)
  (.br 1018 (decide (p1.fInside.fHost = p0.fNat.fHost))
   (.done true)
   (.call 1026 (s111 p0 p0.fNat.fMapping p1.fPeer) [] [] fun r17 =>
    .br 1030 (!r17)
    (.done true)
    (.br 1040 (decide (p1.fPort < p0.fNat.fLow))
     (.done true)
     (.br 1050 (decide (p0.fNat.fHigh < p1.fPort))
      (.done true)
      (.br 1060 (decide (p1.fUntil ≤ p0.fNat.fNow))
       (.done true)
       (.done (decide ((wi64 (p0.fNat.fNow + p0.fNat.fTimeout)) < p1.fUntil)))))))))
 (fun (c18 : Bool) => [.bool c18]) fun c18 =>
 .br 0 c18
 (.done false)
 (.br 0 (p0.fNat.fFilter == 1)
  (.done ((mlen tySAddr p1.fOpen) == 0))
  (.cnd 5 [4]
   (.br 5006 (decide ((1 : Int) ≤ (mlen tySAddr p1.fOpen)))
    (.br 5012 (decide ((mlen tySAddr p1.fOpen) ≤ 16))
     (.view 5015 (s112 p1.fOpen p0) [] fun r31 =>
      .done r31)
     (.done false))
    (.done false))
   (fun (c32 : Bool) => [.bool c32]) fun c32 =>
   .done c32))
theorem k82 (p0 : SRouter) (p1 : SBinding) : FnD Tryd.prog GG [0, 1, 2, 3, 4, 78, 84] Tryd.f82 [.snap [.int .i64 p0.fNat.fMapping, .int .i64 p0.fNat.fFilter, .int .i64 p0.fNat.fTimeout, .bool p0.fNat.fHairpin, .str p0.fNat.fHost, .int .i64 p0.fNat.fLow, .int .i64 p0.fNat.fHigh, .int .i64 p0.fNat.fNow, .sl false 7 (List.map tySBinding.c p0.fNat.fTable)], .agg [.str p1.fInside.fHost, .int .i64 p1.fInside.fPort, .str p1.fPeer.fHost, .int .i64 p1.fPeer.fPort, .int .i64 p1.fPort, .int .i64 p1.fUntil, .sl false 2 (List.map tySAddr.c p1.fOpen)]] (g82 p0 p1) (fun r => .bool r) := by unfold FnD; kernel_rfl
noncomputable def s82 (p0 : SRouter) (p1 : SBinding) : EV.Spec Tryd.prog GG (Bool) := .ofFn 82 mixed Tryd.func82 (k82 p0 p1)
noncomputable def g83 (p0 : SBinding) (p1 : SBinding) : TT (Bool) :=
 .cnd 1 [4]
 (.br 1007 (p0.fPort == p1.fPort)
  (.done true)
  (.br 1013 ((decide (p0.fInside.fHost = p1.fInside.fHost)) && ((p0.fInside.fPort == p1.fInside.fPort) && true))
   (.done ((decide (p0.fPeer.fHost = p1.fPeer.fHost)) && ((p0.fPeer.fPort == p1.fPeer.fPort) && true)))
   (.done false)))
 (fun (c36 : Bool) => [.bool c36]) fun c36 =>
 .done c36
theorem k83 (p0 : SBinding) (p1 : SBinding) : FnD Tryd.prog GG [0, 1, 2, 3, 4] Tryd.f83 [.agg [.str p0.fInside.fHost, .int .i64 p0.fInside.fPort, .str p0.fPeer.fHost, .int .i64 p0.fPeer.fPort, .int .i64 p0.fPort, .int .i64 p0.fUntil, .sl false 2 (List.map tySAddr.c p0.fOpen)], .agg [.str p1.fInside.fHost, .int .i64 p1.fInside.fPort, .str p1.fPeer.fHost, .int .i64 p1.fPeer.fPort, .int .i64 p1.fPort, .int .i64 p1.fUntil, .sl false 2 (List.map tySAddr.c p1.fOpen)]] (g83 p0 p1) (fun r => .bool r) := by unfold FnD; kernel_rfl
noncomputable def s83 (p0 : SBinding) (p1 : SBinding) : EV.Spec Tryd.prog GG (Bool) := .ofFn 83 mixed Tryd.func83 (k83 p0 p1)
noncomputable def g110 (p0 : SBinding) (p1 : SBinding) : TT (Bool) :=
 .call 1004 (s83 p1 p0) [] [] fun r37 =>
 .done r37
theorem k110 (p0 : SBinding) (p1 : SBinding) : FnD Tryd.prog GG [0, 1, 2, 3, 4] Tryd.f110 [.agg [.str p0.fInside.fHost, .int .i64 p0.fInside.fPort, .str p0.fPeer.fHost, .int .i64 p0.fPeer.fPort, .int .i64 p0.fPort, .int .i64 p0.fUntil, .sl false 2 (List.map tySAddr.c p0.fOpen)], .snap [.fn 83 [] []], .snap [.str p1.fInside.fHost, .int .i64 p1.fInside.fPort, .str p1.fPeer.fHost, .int .i64 p1.fPeer.fPort, .int .i64 p1.fPort, .int .i64 p1.fUntil, .sl false 2 (List.map tySAddr.c p1.fOpen)]] (g110 p0 p1) (fun r => .bool r) := by unfold FnD; kernel_rfl
noncomputable def s110 (p0 : SBinding) (p1 : SBinding) : EV.Spec Tryd.prog GG (Bool) := .ofFn 110 mixed Tryd.func110 (k110 p0 p1)
noncomputable def g115 (p0 : (List SBinding)) (p1 : SBinding) : TT (Int) :=
 .bind2 1
 (.lp (fun (l37 : Int) => Ext.lit .normal [(0, .sl false 7 (List.map tySBinding.c p0)), (1, .fn 110 [] [.snap [.fn 83 [] []], .snap [.str p1.fInside.fHost, .int .i64 p1.fInside.fPort, .str p1.fPeer.fHost, .int .i64 p1.fPeer.fPort, .int .i64 p1.fPort, .int .i64 p1.fUntil, .sl false 2 (List.map tySAddr.c p1.fOpen)]]), (4, .int .i64 0), (7, .int .i64 (mlen tySBinding p0)), (8, .int .i64 l37)] [])
  (fun l37 =>
   .br 0 (decide (l37 < (mlen tySBinding p0)))
   (.row 4004 tySBinding p0 l37.toNat (decide (0 ≤ l37)) fun x38 =>
    .call 4006 (s110 x38 p1) [] [] fun r39 =>
    .br 0 r39
    (.done (.inr (.inl l37)))
    (.done (.inl (wi64 (l37 + 1)))))
   (.done (.inr (.inr ()))))
  0)
 (fun (e40 : Int) => Ext.lit .ret [(4, .int .i64 e40)] [])
 (fun (_ : Unit) => Ext.lit (.exit 0) [(4, .int .i64 0)] [])
 (fun e40 =>
  .done e40)
 (fun _ =>
  .done (-1))
theorem k115 (p0 : (List SBinding)) (p1 : SBinding) : FnD Tryd.prog GG [0, 1, 4, 5, 7, 8, 9, 16] Tryd.f115 [.sl false 7 (List.map tySBinding.c p0), .fn 110 [] [.snap [.fn 83 [] []], .snap [.str p1.fInside.fHost, .int .i64 p1.fInside.fPort, .str p1.fPeer.fHost, .int .i64 p1.fPeer.fPort, .int .i64 p1.fPort, .int .i64 p1.fUntil, .sl false 2 (List.map tySAddr.c p1.fOpen)]]] (g115 p0 p1) (fun r => .int .i64 r) := by unfold FnD; kernel_rfl
noncomputable def s115 (p0 : (List SBinding)) (p1 : SBinding) : EV.Spec Tryd.prog GG (Int) := .ofFn 115 mixed Tryd.func115 (k115 p0 p1)
noncomputable def g109 (p0 : (List SBinding)) (p1 : SBinding) : TT (Bool) :=
 .call 1003 (s115 p0 p1) [] [] fun r42 =>
 .done (decide ((0 : Int) ≤ r42))
theorem k109 (p0 : (List SBinding)) (p1 : SBinding) : FnD Tryd.prog GG [0, 1, 4] Tryd.f109 [.sl false 7 (List.map tySBinding.c p0), .fn 110 [] [.snap [.fn 83 [] []], .snap [.str p1.fInside.fHost, .int .i64 p1.fInside.fPort, .str p1.fPeer.fHost, .int .i64 p1.fPeer.fPort, .int .i64 p1.fPort, .int .i64 p1.fUntil, .sl false 2 (List.map tySAddr.c p1.fOpen)]]] (g109 p0 p1) (fun r => .bool r) := by unfold FnD; kernel_rfl
noncomputable def s109 (p0 : (List SBinding)) (p1 : SBinding) : EV.Spec Tryd.prog GG (Bool) := .ofFn 109 mixed Tryd.func109 (k109 p0 p1)
noncomputable def g81 (p0 : (List SBinding)) (p1 : SRouter) : TT (Bool) :=
 .bind2 1
 (.lp (fun (l11 : Int) => Ext.lit .normal [(0, .sl false 7 (List.map tySBinding.c p0)), (1, .fn 82 [.snap [.int .i64 p1.fNat.fMapping, .int .i64 p1.fNat.fFilter, .int .i64 p1.fNat.fTimeout, .bool p1.fNat.fHairpin, .str p1.fNat.fHost, .int .i64 p1.fNat.fLow, .int .i64 p1.fNat.fHigh, .int .i64 p1.fNat.fNow, .sl false 7 (List.map tySBinding.c p1.fNat.fTable)]] []), (5, .ptr 5 0 0), (6, .bool false), (9, .sl false 7 (List.map tySBinding.c p0)), (10, .int .i64 (mlen tySBinding p0)), (11, .int .i64 l11)] [(5, ⟨1, true, [[.fn 83 [] []]]⟩)])
  (fun l11 =>
   .br 0 (decide (l11 < (mlen tySBinding p0)))
   (.row 3002 tySBinding p0 l11.toNat (decide (0 ≤ l11)) fun x12 =>
    .cnd 4 [26]
    (.call 4003 (s82 p1 x12) [] [] fun r13 =>
     .br 4006 (!r13)
     (.done true)
     (.chk 4008 (decide (0 ≤ l11) && decide (l11 ≤ ((mlenn tySBinding p0) : Int))) (.re 4008 (ReW.cutHi 23 7 tySBinding p0 l11.toNat) (.view 4010 (s109 (p0.take l11.toNat) x12) [] fun r14 =>
      .done r14))))
    (fun (c15 : Bool) => [.bool c15]) fun c15 =>
    .br 0 c15
    (.done (.inr (.inl ())))
    (.done (.inl (wi64 (l11 + 1)))))
   (.done (.inr (.inr ()))))
  0)
 (fun (_ : Unit) => Ext.lit .ret [(6, .bool false)] [])
 (fun (_ : Unit) => Ext.lit (.exit 0) [(6, .bool false)] [])
 (fun _ =>
  .done false)
 (fun _ =>
  .done true)
theorem k81 (p0 : (List SBinding)) (p1 : SRouter) : FnD Tryd.prog GG [0, 1, 2, 5, 6, 7, 8, 9, 10, 11, 12, 26] Tryd.f81 [.sl false 7 (List.map tySBinding.c p0), .fn 82 [.snap [.int .i64 p1.fNat.fMapping, .int .i64 p1.fNat.fFilter, .int .i64 p1.fNat.fTimeout, .bool p1.fNat.fHairpin, .str p1.fNat.fHost, .int .i64 p1.fNat.fLow, .int .i64 p1.fNat.fHigh, .int .i64 p1.fNat.fNow, .sl false 7 (List.map tySBinding.c p1.fNat.fTable)]] [], .fn 83 [] []] (g81 p0 p1) (fun r => .bool r) := by unfold FnD; kernel_rfl
noncomputable def s81 (p0 : (List SBinding)) (p1 : SRouter) : EV.Spec Tryd.prog GG (Bool) := .ofFn 81 mixed Tryd.func81 (k81 p0 p1)
noncomputable def g55 (p0 : SRouter) : TT (Bool) :=
 .cnd 1 [52]
 (.call 1006 (s80 p0.fNat.fMapping) [] [] fun r2 =>
  .br 1009 (!r2)
  (.done true)
  (.call 1014 (s80 p0.fNat.fFilter) [] [] fun r3 =>
   .br 1018 (!r3)
   (.done true)
   (.br 1026 (decide (p0.fNat.fTimeout < 1))
    (.done true)
    (.br 1034 (decide ((3600000 : Int) < p0.fNat.fTimeout))
     (.done true)
     (.br 1042 ((p0.fNat.fHost.size : Int) != 4)
      (.done ((p0.fNat.fHost.size : Int) != 16))
      (.done false))))))
 (fun (c4 : Bool) => [.bool c4]) fun c4 =>
 .br 0 c4
 (.done false)
 (.cnd 3 [109]
  (.br 3008 (decide (p0.fNat.fLow < 1))
   (.done true)
   (.br 3016 (decide ((65535 : Int) < p0.fNat.fHigh))
    (.done true)
    (.br 3029 (decide (p0.fNat.fHigh < p0.fNat.fLow))
     (.done true)
     (.br 3043 (decide ((wi64 (p0.fNat.fLow + 64)) ≤ p0.fNat.fHigh))
      (.done true)
      (.br 3051 (decide (p0.fNat.fNow < 0))
       (.done true)
       (.done (decide ((1099511627776 : Int) < p0.fNat.fNow))))))))
  (fun (c5 : Bool) => [.bool c5]) fun c5 =>
  .br 0 c5
  (.done false)
  (.call 5008 (s81 p0.fNat.fTable p0) [] [] fun r18 =>
   .done r18))
theorem k55 (p0 : SRouter) : FnD Tryd.prog GG [0, 2, 52, 109] Tryd.f55 [.snap [.int .i64 p0.fNat.fMapping, .int .i64 p0.fNat.fFilter, .int .i64 p0.fNat.fTimeout, .bool p0.fNat.fHairpin, .str p0.fNat.fHost, .int .i64 p0.fNat.fLow, .int .i64 p0.fNat.fHigh, .int .i64 p0.fNat.fNow, .sl false 7 (List.map tySBinding.c p0.fNat.fTable)]] (g55 p0) (fun r => .bool r) := by unfold FnD; kernel_rfl
noncomputable def s55 (p0 : SRouter) : EV.Spec Tryd.prog GG (Bool) := .ofFn 55 mixed Tryd.func55 (k55 p0)
noncomputable def g57 (p0 : SBinding) : TT ((List SAddr)) :=
 .app 2004 tySAddr [] p0.fOpen 24 true (by intros; rfl) (.done ([] ++ p0.fOpen))
theorem k57 (p0 : SBinding) : FnB Tryd.prog GG [0, 1, 2, 3] Tryd.f57 [.agg [.str p0.fInside.fHost, .int .i64 p0.fInside.fPort, .str p0.fPeer.fHost, .int .i64 p0.fPeer.fPort, .int .i64 p0.fPort, .int .i64 p0.fUntil, .sl false 2 (List.map tySAddr.c p0.fOpen)]] (Ext.of .normal (argTs [.agg [.str p0.fInside.fHost, .int .i64 p0.fInside.fPort, .str p0.fPeer.fHost, .int .i64 p0.fPeer.fPort, .int .i64 p0.fPort, .int .i64 p0.fUntil, .sl false 2 (List.map tySAddr.c p0.fOpen)]]) [] [] (by rfl)) (g57 p0) (fun (r : (List SAddr)) => .agg [.str p0.fInside.fHost, .int .i64 p0.fInside.fPort, .str p0.fPeer.fHost, .int .i64 p0.fPeer.fPort, .int .i64 p0.fPort, .int .i64 p0.fUntil, .ref 7 0 r.length]) (fun (r : (List SAddr)) => Ext.of .normal [] [] [BT.of 7 tySAddr 2 r true] (by rfl)) := by unfold FnB; kernel_rfl
noncomputable def s57 (p0 : SBinding) : EV.Spec Tryd.prog GG ((List SAddr)) := .ofFnB 57 [7] mixed Tryd.func57 rfl (fun _ => rfl) (k57 p0)
end Go.Proofs.YtdiagiflihpidaaDoor
namespace Go.Proofs.YtdiagiflihpidaaDoor
open Go Go.EV
set_option maxRecDepth 100000
structure SBend where
 fWhat : Int
 fAt : Int
 fN : Int
 fA : SAddr
 fS : ByteArray
noncomputable def g35 (p0 : SBend) (p1 : SNat) : TT (SNat) :=
 .gh 1 (.virt 600039 5 7) (.bind 0
 (.lp (fun (l92 : (List SBinding) × Int) => Ext.of .normal [(2, .ptr 2 0 0), (3, .ptr 3 0 0), (4, .ptr 4 0 0), (5, .ref 600039 0 l92.1.length), (6, .int .i64 l92.2)] [(2, ⟨6, true, [[.int .u8 p0.fWhat, .int .u8 p0.fAt, .int .i64 p0.fN, .str p0.fA.fHost, .int .i64 p0.fA.fPort, .str p0.fS]]⟩), (3, ⟨9, true, [[.int .i64 p1.fMapping, .int .i64 p1.fFilter, .int .i64 p1.fTimeout, .bool p1.fHairpin, .str p1.fHost, .int .i64 p1.fLow, .int .i64 p1.fHigh, .int .i64 p1.fNow, .sl false 7 (List.map tySBinding.c p1.fTable)]]⟩), (4, ⟨9, true, [[.int .i64 0, .int .i64 0, .int .i64 0, .bool false, .str ByteArray.empty, .int .i64 0, .int .i64 0, .int .i64 0, .nilsl]]⟩)] [BT.of 600039 tySBindingO6 7 l92.1 true] (by rfl))
  (fun l92 =>
   .br 0 (decide (l92.2 < (mlen tySBinding p1.fTable)))
   (.row 5005 tySBinding p1.fTable l92.2.toNat (decide (0 ≤ l92.2)) fun x93 =>
    .call 5007 (s57 x93) [] [(7, 500041)] fun r94 =>
    .appn 5009 tySBindingO6 l92.1 (SBinding.mk x93.fInside x93.fPeer x93.fPort x93.fUntil r94) 6 500041 tySAddr r94 88 (.gh 0 (.drop [600039]) (.gh 0 (.ren 23 600039) (.done (.inl ((l92.1 ++ [(SBinding.mk x93.fInside x93.fPeer x93.fPort x93.fUntil r94)]), (wi64 (l92.2 + 1))))))))
   (.done (.inr l92.1)))
  ([], 0))
 (fun (e95 : (List SBinding)) => Ext.of (.exit 0) [(2, .ptr 2 0 0), (3, .ptr 3 0 0), (4, .ptr 4 0 0), (5, .ref 600039 0 e95.length)] [(2, ⟨6, true, [[.int .u8 p0.fWhat, .int .u8 p0.fAt, .int .i64 p0.fN, .str p0.fA.fHost, .int .i64 p0.fA.fPort, .str p0.fS]]⟩), (3, ⟨9, true, [[.int .i64 p1.fMapping, .int .i64 p1.fFilter, .int .i64 p1.fTimeout, .bool p1.fHairpin, .str p1.fHost, .int .i64 p1.fLow, .int .i64 p1.fHigh, .int .i64 p1.fNow, .sl false 7 (List.map tySBinding.c p1.fTable)]]⟩), (4, ⟨9, true, [[.int .i64 0, .int .i64 0, .int .i64 0, .bool false, .str ByteArray.empty, .int .i64 0, .int .i64 0, .int .i64 0, .nilsl]]⟩)] [BT.of 600039 tySBindingO6 7 e95 true] (by rfl))
 (fun e95 =>
  .bind 0
  (.br 0 ((Int.tmod p0.fWhat 14) == 0)
   (.gh 0 (.ren 600039 600042) (.done (p0.fN, p1.fFilter, p1.fTimeout, p1.fHost, p1.fLow, p1.fHigh, p1.fNow, e95)))
   (.br 0 ((Int.tmod p0.fWhat 14) == 1)
    (.gh 0 (.ren 600039 600042) (.done (p1.fMapping, p0.fN, p1.fTimeout, p1.fHost, p1.fLow, p1.fHigh, p1.fNow, e95)))
    (.br 0 ((Int.tmod p0.fWhat 14) == 2)
     (.gh 0 (.ren 600039 600042) (.done (p1.fMapping, p1.fFilter, p0.fN, p1.fHost, p1.fLow, p1.fHigh, p1.fNow, e95)))
     (.br 0 ((Int.tmod p0.fWhat 14) == 3)
      (.gh 0 (.ren 600039 600042) (.done (p1.fMapping, p1.fFilter, p1.fTimeout, p0.fS, p1.fLow, p1.fHigh, p1.fNow, e95)))
      (.br 0 ((Int.tmod p0.fWhat 14) == 4)
       (.gh 0 (.ren 600039 600042) (.done (p1.fMapping, p1.fFilter, p1.fTimeout, p1.fHost, p0.fN, p1.fHigh, p1.fNow, e95)))
       (.br 0 ((Int.tmod p0.fWhat 14) == 5)
        (.gh 0 (.ren 600039 600042) (.done (p1.fMapping, p1.fFilter, p1.fTimeout, p1.fHost, p1.fLow, p0.fN, p1.fNow, e95)))
        (.br 0 ((Int.tmod p0.fWhat 14) == 6)
         (.gh 0 (.ren 600039 600042) (.done (p1.fMapping, p1.fFilter, p1.fTimeout, p1.fHost, p1.fLow, p1.fHigh, p0.fN, e95)))
         (.br 0 ((Int.tmod p0.fWhat 14) == 7)
          (.app 23012 tySBindingO6 e95 [(SBinding.mk p0.fA (SAddr.mk ByteArray.empty 0) p0.fN (wi64 (p1.fNow + 1)) [])] 88 false (by intro h; cases h) (.gh 0 (.ren 77 600042) (.done (p1.fMapping, p1.fFilter, p1.fTimeout, p1.fHost, p1.fLow, p1.fHigh, p1.fNow, (e95 ++ [(SBinding.mk p0.fA (SAddr.mk ByteArray.empty 0) p0.fN (wi64 (p1.fNow + 1)) [])])))))
          (.gh 0 (.ren 600039 600042) (.done (p1.fMapping, p1.fFilter, p1.fTimeout, p1.fHost, p1.fLow, p1.fHigh, p1.fNow, e95)))))))))))
  (fun (e96 : Int × Int × Int × ByteArray × Int × Int × Int × (List SBinding)) => Ext.of .normal [(2, .ptr 2 0 0), (3, .ptr 3 0 0), (4, .ptr 4 0 0)] [(2, ⟨6, true, [[.int .u8 p0.fWhat, .int .u8 p0.fAt, .int .i64 p0.fN, .str p0.fA.fHost, .int .i64 p0.fA.fPort, .str p0.fS]]⟩), (3, ⟨9, true, [[.int .i64 e96.1, .int .i64 e96.2.1, .int .i64 e96.2.2.1, .bool p1.fHairpin, .str e96.2.2.2.1, .int .i64 e96.2.2.2.2.1, .int .i64 e96.2.2.2.2.2.1, .int .i64 e96.2.2.2.2.2.2.1, .ref 600042 0 e96.2.2.2.2.2.2.2.length]]⟩), (4, ⟨9, true, [[.int .i64 0, .int .i64 0, .int .i64 0, .bool false, .str ByteArray.empty, .int .i64 0, .int .i64 0, .int .i64 0, .nilsl]]⟩)] [BT.of 600042 tySBindingO6 7 e96.2.2.2.2.2.2.2 true] (by rfl))
  (fun e96 =>
   .br 0 ((e96.2.2.2.2.2.2.2.length : Int) == 0)
   (.gh 0 (.share (VwW.of 600042 tySBindingO6 e96.2.2.2.2.2.2.2) 1) (.done (SNat.mk e96.1 e96.2.1 e96.2.2.1 p1.fHairpin e96.2.2.2.1 e96.2.2.2.2.1 e96.2.2.2.2.2.1 e96.2.2.2.2.2.2.1 e96.2.2.2.2.2.2.2)))
   (.chk 26009 (!((e96.2.2.2.2.2.2.2.length : Int) == 0)) (.chk 26010 (decide (0 ≤ (Int.tmod (wi64 p0.fAt) (e96.2.2.2.2.2.2.2.length : Int))) && decide ((Int.tmod (wi64 p0.fAt) (e96.2.2.2.2.2.2.2.length : Int)) < (e96.2.2.2.2.2.2.2.length : Int))) (.br 0 ((Int.tmod p0.fWhat 14) == 8)
    (.row 29006 tySBindingO6 e96.2.2.2.2.2.2.2 (0 + (Int.tmod (wi64 p0.fAt) (e96.2.2.2.2.2.2.2.length : Int)).toNat) true fun x97 =>
     .re 29006 (ReW.put 600042 7 tySBindingO6 e96.2.2.2.2.2.2.2 (0 + (Int.tmod (wi64 p0.fAt) (e96.2.2.2.2.2.2.2.length : Int)).toNat) (SBinding.mk p0.fA x97.fPeer x97.fPort x97.fUntil x97.fOpen)) (.gh 42 (.len 600042 ((e96.2.2.2.2.2.2.2.set (0 + (Int.tmod (wi64 p0.fAt) (e96.2.2.2.2.2.2.2.length : Int)).toNat) (SBinding.mk p0.fA x97.fPeer x97.fPort x97.fUntil x97.fOpen)).length) [e96.2.2.2.2.2.2.2.length] (by simp)) (.gh 0 (.share (VwW.of 600042 tySBindingO6 (e96.2.2.2.2.2.2.2.set (0 + (Int.tmod (wi64 p0.fAt) (e96.2.2.2.2.2.2.2.length : Int)).toNat) (SBinding.mk p0.fA x97.fPeer x97.fPort x97.fUntil x97.fOpen))) 1) (.done (SNat.mk e96.1 e96.2.1 e96.2.2.1 p1.fHairpin e96.2.2.2.1 e96.2.2.2.2.1 e96.2.2.2.2.2.1 e96.2.2.2.2.2.2.1 (e96.2.2.2.2.2.2.2.set (0 + (Int.tmod (wi64 p0.fAt) (e96.2.2.2.2.2.2.2.length : Int)).toNat) (SBinding.mk p0.fA x97.fPeer x97.fPort x97.fUntil x97.fOpen)))))))
    (.br 0 ((Int.tmod p0.fWhat 14) == 9)
     (.row 31006 tySBindingO6 e96.2.2.2.2.2.2.2 (0 + (Int.tmod (wi64 p0.fAt) (e96.2.2.2.2.2.2.2.length : Int)).toNat) true fun x98 =>
      .re 31006 (ReW.put 600042 7 tySBindingO6 e96.2.2.2.2.2.2.2 (0 + (Int.tmod (wi64 p0.fAt) (e96.2.2.2.2.2.2.2.length : Int)).toNat) (SBinding.mk x98.fInside p0.fA x98.fPort x98.fUntil x98.fOpen)) (.gh 42 (.len 600042 ((e96.2.2.2.2.2.2.2.set (0 + (Int.tmod (wi64 p0.fAt) (e96.2.2.2.2.2.2.2.length : Int)).toNat) (SBinding.mk x98.fInside p0.fA x98.fPort x98.fUntil x98.fOpen)).length) [e96.2.2.2.2.2.2.2.length] (by simp)) (.gh 0 (.share (VwW.of 600042 tySBindingO6 (e96.2.2.2.2.2.2.2.set (0 + (Int.tmod (wi64 p0.fAt) (e96.2.2.2.2.2.2.2.length : Int)).toNat) (SBinding.mk x98.fInside p0.fA x98.fPort x98.fUntil x98.fOpen))) 1) (.done (SNat.mk e96.1 e96.2.1 e96.2.2.1 p1.fHairpin e96.2.2.2.1 e96.2.2.2.2.1 e96.2.2.2.2.2.1 e96.2.2.2.2.2.2.1 (e96.2.2.2.2.2.2.2.set (0 + (Int.tmod (wi64 p0.fAt) (e96.2.2.2.2.2.2.2.length : Int)).toNat) (SBinding.mk x98.fInside p0.fA x98.fPort x98.fUntil x98.fOpen)))))))
     (.br 0 ((Int.tmod p0.fWhat 14) == 10)
      (.row 33006 tySBindingO6 e96.2.2.2.2.2.2.2 (0 + (Int.tmod (wi64 p0.fAt) (e96.2.2.2.2.2.2.2.length : Int)).toNat) true fun x99 =>
       .re 33006 (ReW.put 600042 7 tySBindingO6 e96.2.2.2.2.2.2.2 (0 + (Int.tmod (wi64 p0.fAt) (e96.2.2.2.2.2.2.2.length : Int)).toNat) (SBinding.mk x99.fInside x99.fPeer p0.fN x99.fUntil x99.fOpen)) (.gh 42 (.len 600042 ((e96.2.2.2.2.2.2.2.set (0 + (Int.tmod (wi64 p0.fAt) (e96.2.2.2.2.2.2.2.length : Int)).toNat) (SBinding.mk x99.fInside x99.fPeer p0.fN x99.fUntil x99.fOpen)).length) [e96.2.2.2.2.2.2.2.length] (by simp)) (.gh 0 (.share (VwW.of 600042 tySBindingO6 (e96.2.2.2.2.2.2.2.set (0 + (Int.tmod (wi64 p0.fAt) (e96.2.2.2.2.2.2.2.length : Int)).toNat) (SBinding.mk x99.fInside x99.fPeer p0.fN x99.fUntil x99.fOpen))) 1) (.done (SNat.mk e96.1 e96.2.1 e96.2.2.1 p1.fHairpin e96.2.2.2.1 e96.2.2.2.2.1 e96.2.2.2.2.2.1 e96.2.2.2.2.2.2.1 (e96.2.2.2.2.2.2.2.set (0 + (Int.tmod (wi64 p0.fAt) (e96.2.2.2.2.2.2.2.length : Int)).toNat) (SBinding.mk x99.fInside x99.fPeer p0.fN x99.fUntil x99.fOpen)))))))
      (.br 0 ((Int.tmod p0.fWhat 14) == 11)
       (.row 35006 tySBindingO6 e96.2.2.2.2.2.2.2 (0 + (Int.tmod (wi64 p0.fAt) (e96.2.2.2.2.2.2.2.length : Int)).toNat) true fun x100 =>
        .re 35006 (ReW.put 600042 7 tySBindingO6 e96.2.2.2.2.2.2.2 (0 + (Int.tmod (wi64 p0.fAt) (e96.2.2.2.2.2.2.2.length : Int)).toNat) (SBinding.mk x100.fInside x100.fPeer x100.fPort p0.fN x100.fOpen)) (.gh 42 (.len 600042 ((e96.2.2.2.2.2.2.2.set (0 + (Int.tmod (wi64 p0.fAt) (e96.2.2.2.2.2.2.2.length : Int)).toNat) (SBinding.mk x100.fInside x100.fPeer x100.fPort p0.fN x100.fOpen)).length) [e96.2.2.2.2.2.2.2.length] (by simp)) (.gh 0 (.share (VwW.of 600042 tySBindingO6 (e96.2.2.2.2.2.2.2.set (0 + (Int.tmod (wi64 p0.fAt) (e96.2.2.2.2.2.2.2.length : Int)).toNat) (SBinding.mk x100.fInside x100.fPeer x100.fPort p0.fN x100.fOpen))) 1) (.done (SNat.mk e96.1 e96.2.1 e96.2.2.1 p1.fHairpin e96.2.2.2.1 e96.2.2.2.2.1 e96.2.2.2.2.2.1 e96.2.2.2.2.2.2.1 (e96.2.2.2.2.2.2.2.set (0 + (Int.tmod (wi64 p0.fAt) (e96.2.2.2.2.2.2.2.length : Int)).toNat) (SBinding.mk x100.fInside x100.fPeer x100.fPort p0.fN x100.fOpen)))))))
       (.br 0 ((Int.tmod p0.fWhat 14) == 12)
        (.rowt 37005 tySBindingO6 e96.2.2.2.2.2.2.2 (0 + (Int.tmod (wi64 p0.fAt) (e96.2.2.2.2.2.2.2.length : Int)).toNat) 6 fun x101 =>
         .re 37005 (ReW.take 600042 7 true tySBindingO6 e96.2.2.2.2.2.2.2 (0 + (Int.tmod (wi64 p0.fAt) (e96.2.2.2.2.2.2.2.length : Int)).toNat) [.str x101.fInside.fHost, .int .i64 x101.fInside.fPort, .str x101.fPeer.fHost, .int .i64 x101.fPeer.fPort, .int .i64 x101.fPort, .int .i64 x101.fUntil, .sl false 2 (List.map tySAddr.c x101.fOpen)] rfl 131 2 tySAddr x101.fOpen (fun _ => rfl) (fun n => .ref 131 0 n)) (.app 37009 tySAddr x101.fOpen [p0.fA] 24 false (by intro h; cases h) (.nst 37012 tySBindingO6 e96.2.2.2.2.2.2.2 [.str x101.fInside.fHost, .int .i64 x101.fInside.fPort, .str x101.fPeer.fHost, .int .i64 x101.fPeer.fPort, .int .i64 x101.fPort, .int .i64 x101.fUntil, .sl false 2 (List.map tySAddr.c x101.fOpen)] (0 + (Int.tmod (wi64 p0.fAt) (e96.2.2.2.2.2.2.2.length : Int)).toNat) 6 (SBinding.mk x101.fInside x101.fPeer x101.fPort x101.fUntil (x101.fOpen ++ [p0.fA])) tySAddr (x101.fOpen ++ [p0.fA]) none (.gh 42 (.len 600042 ((e96.2.2.2.2.2.2.2.set (0 + (Int.tmod (wi64 p0.fAt) (e96.2.2.2.2.2.2.2.length : Int)).toNat) (SBinding.mk x101.fInside x101.fPeer x101.fPort x101.fUntil (x101.fOpen ++ [p0.fA]))).length) [e96.2.2.2.2.2.2.2.length] (by simp)) (.gh 0 (.share (VwW.of 600042 tySBindingO6 (e96.2.2.2.2.2.2.2.set (0 + (Int.tmod (wi64 p0.fAt) (e96.2.2.2.2.2.2.2.length : Int)).toNat) (SBinding.mk x101.fInside x101.fPeer x101.fPort x101.fUntil (x101.fOpen ++ [p0.fA])))) 1) (.done (SNat.mk e96.1 e96.2.1 e96.2.2.1 p1.fHairpin e96.2.2.2.1 e96.2.2.2.2.1 e96.2.2.2.2.2.1 e96.2.2.2.2.2.2.1 (e96.2.2.2.2.2.2.2.set (0 + (Int.tmod (wi64 p0.fAt) (e96.2.2.2.2.2.2.2.length : Int)).toNat) (SBinding.mk x101.fInside x101.fPeer x101.fPort x101.fUntil (x101.fOpen ++ [p0.fA]))))))))))
        (.br 0 ((Int.tmod p0.fWhat 14) == 13)
         (.row 39004 tySBindingO6 e96.2.2.2.2.2.2.2 (0 + (Int.tmod (wi64 p0.fAt) (e96.2.2.2.2.2.2.2.length : Int)).toNat) true fun x102 =>
          .re 39004 (ReW.put 600042 7 tySBindingO6 e96.2.2.2.2.2.2.2 (0 + (Int.tmod (wi64 p0.fAt) (e96.2.2.2.2.2.2.2.length : Int)).toNat) (SBinding.mk x102.fInside x102.fPeer x102.fPort x102.fUntil [])) (.gh 42 (.len 600042 ((e96.2.2.2.2.2.2.2.set (0 + (Int.tmod (wi64 p0.fAt) (e96.2.2.2.2.2.2.2.length : Int)).toNat) (SBinding.mk x102.fInside x102.fPeer x102.fPort x102.fUntil [])).length) [e96.2.2.2.2.2.2.2.length] (by simp)) (.gh 0 (.share (VwW.of 600042 tySBindingO6 (e96.2.2.2.2.2.2.2.set (0 + (Int.tmod (wi64 p0.fAt) (e96.2.2.2.2.2.2.2.length : Int)).toNat) (SBinding.mk x102.fInside x102.fPeer x102.fPort x102.fUntil []))) 1) (.done (SNat.mk e96.1 e96.2.1 e96.2.2.1 p1.fHairpin e96.2.2.2.1 e96.2.2.2.2.1 e96.2.2.2.2.2.1 e96.2.2.2.2.2.2.1 (e96.2.2.2.2.2.2.2.set (0 + (Int.tmod (wi64 p0.fAt) (e96.2.2.2.2.2.2.2.length : Int)).toNat) (SBinding.mk x102.fInside x102.fPeer x102.fPort x102.fUntil [])))))))
         (.gh 0 (.share (VwW.of 600042 tySBindingO6 e96.2.2.2.2.2.2.2) 1) (.done (SNat.mk e96.1 e96.2.1 e96.2.2.1 p1.fHairpin e96.2.2.2.1 e96.2.2.2.2.1 e96.2.2.2.2.2.1 e96.2.2.2.2.2.2.1 e96.2.2.2.2.2.2.2))))))))))))))
theorem k35 (p0 : SBend) (p1 : SNat) : FnD Tryd.prog GG [0, 1, 2, 3, 4, 5, 6, 7, 12, 28, 29, 34, 39, 44, 49, 54, 59, 64, 82, 96, 97, 104, 111, 118, 125, 138] Tryd.f35 [.agg [.int .u8 p0.fWhat, .int .u8 p0.fAt, .int .i64 p0.fN, .str p0.fA.fHost, .int .i64 p0.fA.fPort, .str p0.fS], .agg [.int .i64 p1.fMapping, .int .i64 p1.fFilter, .int .i64 p1.fTimeout, .bool p1.fHairpin, .str p1.fHost, .int .i64 p1.fLow, .int .i64 p1.fHigh, .int .i64 p1.fNow, .sl false 7 (List.map tySBinding.c p1.fTable)]] (g35 p0 p1) (fun r => .agg [.int .i64 r.fMapping, .int .i64 r.fFilter, .int .i64 r.fTimeout, .bool r.fHairpin, .str r.fHost, .int .i64 r.fLow, .int .i64 r.fHigh, .int .i64 r.fNow, .sl false 7 (List.map tySBinding.c r.fTable)]) := by unfold FnD; kernel_rfl
noncomputable def s35 (p0 : SBend) (p1 : SNat) : EV.Spec Tryd.prog GG (SNat) := .ofFn 35 mixed Tryd.func35 (k35 p0 p1)
end Go.Proofs.YtdiagiflihpidaaDoor
