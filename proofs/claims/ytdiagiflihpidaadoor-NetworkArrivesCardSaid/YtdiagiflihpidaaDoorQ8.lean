/- Guides and contracts, printed by a program.
   The port for an address inside: a range over a function, put together by hand.
   Guides and contracts, printed by a program.
   Guides and contracts, printed by a program.
   Guides and contracts, printed by a program. -/
import Derived.Test.YtdiagiflihpidaaDoorQ7
import Derived.Test.YtdiagiflihpidaaDoorQ6
import Derived.Test.YtdiagiflihpidaaDoorProg
import Derived.KernelRfl
namespace Go.Proofs.YtdiagiflihpidaaDoor
open Go Go.EV
set_option maxRecDepth 100000
def GG : Nat → Option (List V) := fun g => if g = 0 then some [.nilf, .fn 146 [] [], .fn 147 [] [], .fn 148 [] []] else none
abbrev TT := T Tryd.prog GG
theorem mixed : Tryd.prog.follows .mixedOrders = true := by kernel_rfl
structure SAddr where
 fHost : ByteArray
 fPort : Int
structure SBinding where
 fInside : SAddr
 fPeer : SAddr
 fPort : Int
 fUntil : Int
 fOpen : (List SAddr)
structure SNat where
 fMapping : Int
 fFilter : Int
 fTimeout : Int
 fHairpin : Bool
 fHost : ByteArray
 fLow : Int
 fHigh : Int
 fNow : Int
 fTable : (List SBinding)
structure SRouter where
 fNat : SNat
structure SHost where
 fs : ByteArray
def tySAddr : Ty SAddr := ⟨fun x => [.str x.fHost, .int .i64 x.fPort], fun x => [.str x.fHost, .int .i64 x.fPort], fun _ => rfl, fun _ => rfl, fun _ _ => rfl, fun _ => rfl⟩
def tySBinding : Ty SBinding := ⟨fun x => [.str x.fInside.fHost, .int .i64 x.fInside.fPort, .str x.fPeer.fHost, .int .i64 x.fPeer.fPort, .int .i64 x.fPort, .int .i64 x.fUntil, .sl false 2 (List.map tySAddr.c x.fOpen)], fun x => [.str x.fInside.fHost, .int .i64 x.fInside.fPort, .str x.fPeer.fHost, .int .i64 x.fPeer.fPort, .int .i64 x.fPort, .int .i64 x.fUntil, .sl false 2 (List.map tySAddr.c x.fOpen)], fun _ => rfl, fun _ => rfl, fun _ _ => rfl, fun _ => rfl⟩
def tySBindingO6 : Ty SBinding := ⟨fun x => [.str x.fInside.fHost, .int .i64 x.fInside.fPort, .str x.fPeer.fHost, .int .i64 x.fPeer.fPort, .int .i64 x.fPort, .int .i64 x.fUntil, .sl true 2 (List.map tySAddr.c x.fOpen)], fun x => [.str x.fInside.fHost, .int .i64 x.fInside.fPort, .str x.fPeer.fHost, .int .i64 x.fPeer.fPort, .int .i64 x.fPort, .int .i64 x.fUntil, .sl false 2 (List.map tySAddr.c x.fOpen)], fun _ => rfl, fun _ => rfl, fun _ _ => rfl, fun _ => rfl⟩
noncomputable def g116 (_ : SRouter) (_ : Int) : TT (Unit) :=
 .done ()
theorem k116 (p0 : SRouter) (p1 : Int) : FnB Tryd.prog GG [0, 1, 2, 3, 4] Tryd.f116 [.snap [.int .i64 p0.fNat.fMapping, .int .i64 p0.fNat.fFilter, .int .i64 p0.fNat.fTimeout, .bool p0.fNat.fHairpin, .str p0.fNat.fHost, .int .i64 p0.fNat.fLow, .int .i64 p0.fNat.fHigh, .int .i64 p0.fNat.fNow, .sl false 7 (List.map tySBinding.c p0.fNat.fTable)], .int .i64 p1] (Ext.of .normal (argTs [.snap [.int .i64 p0.fNat.fMapping, .int .i64 p0.fNat.fFilter, .int .i64 p0.fNat.fTimeout, .bool p0.fNat.fHairpin, .str p0.fNat.fHost, .int .i64 p0.fNat.fLow, .int .i64 p0.fNat.fHigh, .int .i64 p0.fNat.fNow, .sl false 7 (List.map tySBinding.c p0.fNat.fTable)], .int .i64 p1]) [] [] (by rfl)) (g116 p0 p1) (fun (_ : Unit) => .fn 127 [] [.ptr 3 0 0, .ptr 2 0 0]) (fun (_ : Unit) => Ext.of .normal [] [(2, ⟨1, true, [[.snap [.int .i64 p0.fNat.fMapping, .int .i64 p0.fNat.fFilter, .int .i64 p0.fNat.fTimeout, .bool p0.fNat.fHairpin, .str p0.fNat.fHost, .int .i64 p0.fNat.fLow, .int .i64 p0.fNat.fHigh, .int .i64 p0.fNat.fNow, .sl false 7 (List.map tySBinding.c p0.fNat.fTable)]]]⟩), (3, ⟨1, true, [[.int .i64 p1]]⟩)] [] (by rfl)) := by unfold FnB; kernel_rfl
noncomputable def s116 (p0 : SRouter) (p1 : Int) : EV.Spec Tryd.prog GG (Unit) := .ofFnB 116 [] mixed Tryd.func116 rfl (fun _ => rfl) (k116 p0 p1)
end Go.Proofs.YtdiagiflihpidaaDoor
namespace Go.Proofs.YtdiagiflihpidaaDoor
open Go Go.EV
set_option maxRecDepth 100000
def natC (p0 : SNat) : List V := [.int .i64 p0.fMapping, .int .i64 p0.fFilter, .int .i64 p0.fTimeout, .bool p0.fHairpin, .str p0.fHost, .int .i64 p0.fLow, .int .i64 p0.fHigh, .int .i64 p0.fNow, .sl false 7 (List.map tySBinding.c p0.fTable)]
def cRange : Code → Code
 | .seq _ (.scope (.seq _ (.seq (.seq _ (.block _ c)) _))) => c
 | _ => .skip
def rAssign : Code → Code
 | .rangeFunc _ _ a _ => a
 | _ => .skip
def rBody : Code → Code
 | .rangeFunc _ _ _ b => b
 | _ => .skip
def frTs : List (Nat × V) := [(2, .ptr 1000002 0 0), (4, .ptr 1000004 0 0), (5, .ptr 1000005 0 0), (11, .fn 127 [] [.ptr 1000031 0 0, .ptr 1000032 0 0])]
def allBs (p0 : SNat) (p : Int) (ok : Bool) (cur : Int) : List (Nat × Blk) := [(1000002, ⟨1, true, [[.snap (natC p0)]]⟩), (1000004, ⟨1, true, [[.int .i64 p]]⟩), (1000005, ⟨1, true, [[.bool ok]]⟩), (1000031, ⟨1, true, [[.int .i64 cur]]⟩), (1000032, ⟨1, true, [[.snap (natC p0)]]⟩)]
def gRound (p0 : SNat) (p : Int) : TT Bool :=
 .bind2 2
 (.lp (fun (i : Int) => Ext.lit .normal (frTs ++ [(6, .int .i64 p), (17, .sl false 7 (List.map tySBinding.c p0.fTable)), (18, .int .i64 (mlen tySBinding p0.fTable)), (19, .int .i64 i)]) (allBs p0 0 false p))
  (fun i =>
   .br 0 (decide (i < mlen tySBinding p0.fTable))
   (.row 5001 tySBinding p0.fTable i.toNat (decide (0 ≤ i)) fun x =>
    .br 0 (x.fPort == p)
    (.done (.inr (.inl ())))
    (.done (.inl (wi64 (i + 1)))))
   (.done (.inr (.inr ()))))
  0)
 (fun (_ : Unit) => Ext.lit (.exit 1) [] (allBs p0 0 false p))
 (fun (_ : Unit) => Ext.lit (.exit 2) (frTs ++ [(6, .int .i64 p)]) (allBs p0 0 false p))
 (fun _ => .done true)
 (fun _ => .done false)
def xRound (p0 : SNat) (p : Int) : Ext := Ext.lit .normal (frTs ++ [(6, .int .i64 p)]) (allBs p0 0 false p)
def eRound (p0 : SNat) (p : Int) : Bool → Ext := fun r => bif r then Ext.lit .normal [] (allBs p0 0 false p) else Ext.lit .ret [] (allBs p0 p true p)
theorem kRound (p0 : SNat) (p : Int) : Piece Tryd.prog GG [2, 4, 5, 6, 8, 17, 18, 19, 20, 26] 29 (rBody (cRange (Tryd.f87.body.getD .skip))) (xRound p0 p) (gRound p0 p) (eRound p0 p) := by
 unfold Piece; kernel_rfl
def xAssign (p0 : SNat) (p : Int) : Ext := Ext.lit .normal ((12, .int .i64 p) :: frTs) (allBs p0 0 false p)
theorem kAssign (p0 : SNat) (p : Int) : Piece Tryd.prog GG [2, 4, 5, 6, 11] 29 (rAssign (cRange (Tryd.f87.body.getD .skip))) (xAssign p0 p) (.done () : TT Unit) (fun _ => xRound p0 p) := by
 unfold Piece; kernel_rfl
def rOut (p0 : SNat) (p : Int) (r : Bool) (e : Exit) (b : Nat → Option Blk) : Prop :=
 bif r then e = .normal ∧ b = ofL (allBs p0 0 false p) else e = .ret ∧ b = ofL (allBs p0 p true p)
theorem round87 (p0 : SNat) (p : Int) {r : Bool} (hr : (gRound p0 p).run = some r) :
  RoundT Tryd.prog GG 29 (tOf frTs) [12] (rAssign (cRange (Tryd.f87.body.getD .skip))) (rBody (cRange (Tryd.f87.body.getD .skip))) (ofL (allBs p0 0 false p)) [.int .i64 p] (rOut p0 p r) := by
 refine ⟨((xRound p0 p).D 29).st, ?_, ?_⟩
 ·have h := (kAssign p0 p).tv mixed (r := ()) rfl (by rfl)
  have e : ((xAssign p0 p).D 29).st = setP (susp 29 (tOf frTs) (ofL (allBs p0 0 false p))) ([12].zip [.int .i64 p]) := by
   rw [ext_susp (by rfl)]
   exact (setP_susp 29 frTs _ 12 (.int .i64 p)).symm
  rw [e] at h
  exact h
 ·refine ((kRound p0 p).tv mixed hr (by cases r <;> rfl)).mono fun e s hg => ?_
  obtain ⟨rfl, g⟩ := hg
  cases r with
  | true => exact ⟨ofL (allBs p0 0 false p), 29, ⟨rfl, rfl⟩, by rw [ext_susp (by rfl)] at g; exact g⟩
  | false => exact ⟨ofL (allBs p0 p true p), 29, ⟨rfl, rfl⟩, by rw [ext_susp (by rfl)] at g; exact g⟩
def itArgs (l : Nat) : List V := [.yld l, .ptr 1000031 0 0, .ptr 1000032 0 0]
def itSize (p0 : SNat) : Int := wi64 ((wi64 (p0.fHigh - p0.fLow)) + 1)
def itTs (p0 : SNat) (l : Nat) (k : Int) : List (Nat × V) := argTs (itArgs l) ++ [(36, .int .i64 (itSize p0)), (37, .int .i64 k)]
def xI0 (p0 : SNat) (l : Nat) (cur : Int) : Ext := Ext.lit .normal (argTs (itArgs l)) (allBs p0 0 false cur)
def xI (p0 : SNat) (l : Nat) (cur k : Int) : Ext := Ext.lit .normal (itTs p0 l k) (allBs p0 0 false cur)
def xI3 (p0 : SNat) (l : Nat) (cur k : Int) : Ext := Ext.lit .normal (itTs p0 l k ++ [(38, .bool (decide (k < itSize p0)))]) (allBs p0 0 false cur)
def xI4 (p0 : SNat) (l : Nat) (cur k : Int) : Ext := Ext.lit .normal (itTs p0 l k ++ [(39, .yld l), (40, .int .i64 cur)]) (allBs p0 0 false cur)
noncomputable def c127 : Code := Tryd.f127.body.getD .skip
def cL : Code → Code
 | .seq x _ => x
 | _ => .skip
def cR : Code → Code
 | .seq _ y => y
 | _ => .skip
def cB : Code → Code
 | .block _ y => y
 | .loop y => y
 | _ => .skip
def gI0 (p0 : SNat) (own : Int) : TT Int :=
 .cnd 0 [19]
 (.br 9 (decide (own < p0.fLow)) (.done true) (.done (decide (p0.fHigh < own))))
 (fun (c : Bool) => [.bool c]) fun c =>
 .br 0 c (.done p0.fLow) (.done own)
theorem kI0 (p0 : SNat) (l : Nat) (own : Int) : Piece Tryd.prog GG [0, 1, 2, 19] 58 (cL c127) (xI0 p0 l own) (gI0 p0 own) (fun c => xI0 p0 l c) := by
 unfold Piece; kernel_rfl
theorem kI1 (p0 : SNat) (l : Nat) (cur : Int) : Piece Tryd.prog GG [0, 1, 2, 36, 37] 58 (cL (cR c127)) (xI0 p0 l cur) (.done () : TT Unit) (fun _ => xI p0 l cur 0) := by
 unfold Piece; kernel_rfl
noncomputable def cLp : Code := cB (cB (cR (cR c127)))
theorem kI3 (p0 : SNat) (l : Nat) (cur k : Int) : Piece Tryd.prog GG [0, 1, 2, 36, 37, 38] 58 (cL cLp) (xI p0 l cur k) (.done () : TT Unit) (fun _ => xI3 p0 l cur k) := by
 unfold Piece; kernel_rfl
def gI5 (p0 : SNat) (cur : Int) : TT Int :=
 .br 0 (decide (p0.fHigh < wi64 (cur + 1))) (.done p0.fLow) (.done (wi64 (cur + 1)))
theorem kI5 (p0 : SNat) (l : Nat) (cur k : Int) : Piece Tryd.prog GG [0, 1, 2, 36, 37, 51] 58 (cR (cB (cL (cR (cR cLp))))) (xI p0 l cur k) (gI5 p0 cur) (fun c => xI p0 l c k) := by
 unfold Piece; kernel_rfl
theorem kI8 (p0 : SNat) (l : Nat) (cur k : Int) : Piece Tryd.prog GG [0, 1, 2, 36, 37] 58 (cR (cR (cR cLp))) (xI p0 l cur k) (.done () : TT Unit) (fun _ => xI p0 l cur (wi64 (k + 1))) := by
 unfold Piece; kernel_rfl
def itStep (p0 : SNat) (y : Int × Int) : Option ((Int × Int) ⊕ Option Int) :=
 bif decide (y.2 < itSize p0) then
  match (gRound p0 y.1).run with
  | none => none
  | some r => bif r then (match (gI5 p0 y.1).run with | some c => some (.inl (c, wi64 (y.2 + 1))) | none => none) else some (.inr (some y.1))
 else some (.inr none)
def freeM (p0 : SNat) (own : Int) : Option (Option Int) :=
 match (gI0 p0 own).run with
 | none => none
 | some c => iter (itStep p0) FUEL (c, 0)
def outM (p0 : SNat) (r : Option Int) (e : Exit) (b : Nat → Option Blk) : Prop :=
 match r with
 | none => e = .normal ∧ ∃ cur, b = ofL (allBs p0 0 false cur)
 | some p => e = .ret ∧ ∃ cur, b = ofL (allBs p0 p true cur)
noncomputable def fL : YL := ⟨29, tOf frTs, #[12], rAssign (cRange (Tryd.f87.body.getD .skip)), rBody (cRange (Tryd.f87.body.getD .skip))⟩
def rOps : Code → Array Oper
 | .region _ o _ => o
 | _ => #[]
noncomputable def ops4 : Array Oper := rOps (cL (cL (cB (cL (cR (cR cLp))))))
theorem e1 : c127 = .seq (cL c127) (cR c127) := by kernel_rfl
theorem e2 : cR c127 = .seq (cL (cR c127)) (.block 0 (.loop cLp)) := by kernel_rfl
theorem e4 : cLp = .seq (cL cLp) (.seq (.cond (.tmp 38) .skip (.exit 0)) (.seq (.block 1 (.seq (.seq (.region 4 ops4 false) (.cond (.tmp 42) .ret .skip)) (cR (cB (cL (cR (cR cLp))))))) (cR (cR (cR cLp))))) := by kernel_rfl
theorem iter_succ {σ ε : Type} (f : σ → Option (σ ⊕ ε)) (m : Nat) (x : σ) : iter f (m + 1) x = (match f x with | none => none | some (.inl z) => iter f m z | some (.inr e) => some e) := by
 cases h : f x with
 | none => simp only [iter, h]
 | some y => cases y <;> simp only [iter, h]
theorem Gst.same {G : Nat → Option (List V)} (st : St) : Gst G st st := fun γ _ w hs => ⟨γ, hs, .refl γ w, .refl hs.u⟩
theorem find_b {l : List (Nat × Blk)} {b : Nat} {k : Blk} (h : ofL l b = some k) : ∃ q, q ∈ l ∧ q.1 = b ∧ q.2 = k := by
 unfold ofL at h
 split at h
 ·rename_i q hq
  exact ⟨q, List.mem_of_find?_eq_some hq, by simpa using List.find?_some hq, Option.some.inj h⟩
 ·simp at h
theorem Gst.ext {G : Nat → Option (List V)} {st : St} (x : Ext) {n : Nat} (hn : n = st.n) (ht : x.ts.map (fun p => st.t p.1) = x.ts.map (·.2)) (hto : x.ts.all (fun p => okV (stOf n x.ts x.bs x.us).u p.2) = true)
  (hb : x.bs.map (fun p => st.b p.1) = x.bs.map (fun p => some p.2)) (hbu : x.bs.all (fun p => (stOf n x.ts x.bs x.us).u p.1) = true) (hbo : (x.bs.all fun q => q.2.rows.all fun r => r.all fun c => okV (stOf n x.ts x.bs x.us).u c) = true) : Gst G st (x.D n).st :=
 Gst.forget (forget_to hn ht hto hb hbu fun q hq r hr c hc => List.all_eq_true.1 (List.all_eq_true.1 (List.all_eq_true.1 hbo q hq) r hr) c hc)
theorem iter127 (p0 : SNat) (own : Int) {r : Option Int} (h : freeM p0 own = some r) :
  IterT Tryd.prog GG c127 58 itArgs (ofL (allBs p0 0 false own)) fL (outM p0 r) := by
 refine IterT.of fun l => ?_
 unfold freeM at h
 split at h
 ·simp at h
 rename_i c hc
 have e0 : entry 58 (itArgs l) (ofL (allBs p0 0 false own)) = ((xI0 p0 l own).D 58).st := (entry_ext (x := xI0 p0 l own) (by rfl) (by rfl) 58).symm
 rw [e0, e1]
 refine YT.seq (YT.piece (kI0 p0 l own) mixed hc (by rfl) fun s g => ?_)
 show YT _ _ _ _ _ _ _
 refine YT.gst g ?_
 rw [e2]
 refine YT.seq (YT.piece (kI1 p0 l c) mixed (r := ()) rfl (by rfl) fun s g => ?_)
 show YT _ _ _ _ _ _ _
 refine YT.gst g (YT.block ?_)
 refine YT.loop (fun m s => s.x = .normal ∧ ∃ y : Int × Int, Gst GG s.st ((xI p0 l y.1 y.2).D 58).st ∧ iter (itStep p0) m y = some r) (fun m s hI => ?_) (n := FUEL) ⟨rfl, (c, 0), Gst.same _, h⟩
 obtain ⟨x, st⟩ := s
 obtain ⟨rfl, ⟨cur, k⟩, g, hit⟩ := hI
 refine YT.gst g ?_
 cases m with
 | zero => simp [iter] at hit
 | succ m =>
  rw [iter_succ] at hit
  rw [e4]
  refine YT.seq (YT.piece (kI3 p0 l cur k) mixed (r := ()) rfl (by rfl) fun s g => ?_)
  show YT _ _ _ _ _ _ _
  refine YT.gst g ?_
  have done : ∀ (x : Ext), (x.bs.all fun p => decide (1000000 ≤ p.1)) = true → ((x.D 58).st = susp 58 (tOf x.ts) (ofL x.bs)) := fun x hx => ext_susp hx 58
  cases hk : decide (k < itSize p0) with
  | false =>
   have hs : itStep p0 (cur, k) = some (.inr none) := by
    show (bif decide (k < itSize p0) then _ else _) = _
    rw [hk]; rfl
   rw [hs] at hit
   obtain rfl : none = r := Option.some.inj hit
   refine YT.seq (YT.cond (b := false) ?_ (YT.exit ?_))
   ·show some (V.bool (decide (k < itSize p0))) = _
    rw [hk]
   ·refine ⟨.inl rfl, 58, tOf (xI3 p0 l cur k).ts, ofL (xI3 p0 l cur k).bs, ?_, rfl, cur, rfl⟩
    show Gst GG ((xI3 p0 l cur k).D 58).st _
    rw [done (xI3 p0 l cur k) (by rfl)]
    exact Gst.same _
  | true =>
   have hs : itStep p0 (cur, k) = (match (gRound p0 cur).run with | none => none | some r => bif r then (match (gI5 p0 cur).run with | some c => some (.inl (c, wi64 (k + 1))) | none => none) else some (.inr (some cur))) := by
    show (bif decide (k < itSize p0) then _ else _) = _
    rw [hk]; rfl
   rw [hs] at hit
   cases hr : (gRound p0 cur).run with
   | none => rw [hr] at hit; simp at hit
   | some taken =>
    rw [hr] at hit
    refine YT.seq (YT.cond (b := true) ?_ (YT.skip ?_))
    ·show some (V.bool (decide (k < itSize p0))) = _
     rw [hk]
    show YT _ _ _ _ _ _ _
    refine YT.seq (YT.block (YT.seq (YT.seq (YT.region ?_))))
    show YTops _ _ _ _ _ [0, 1, 2, 3] _ _
    refine YTops.step rfl (YTops.step rfl (YTops.gst (st' := ((xI4 p0 l cur k).D 58).st) ?_ ?_))
    ·exact Gst.ext (xI4 p0 l cur k) rfl rfl (by rfl) rfl (by rfl) (by rfl)
    rw [done (xI4 p0 l cur k) (by rfl)]
    refine YTops.yield (hi := rfl) rfl rfl rfl rfl rfl rfl rfl ?_ ?_ ?_ rfl (round87 p0 cur hr) ?_ ?_
    ·exact fun i => tOf_ok (by rfl) i
    ·exact fun i => tOf_ok (by rfl) i
    ·intro p hp
     have : p ∈ [12] := hp
     simp at this
     subst this
     exact (by decide : 12 < 29)
    ·intro e b' h
     unfold rOut at h
     cases taken with
     | true => exact .inl h.1
     | false => exact .inr (.inl h.1)
    ·intro e b' h
     unfold rOut at h
     cases taken with
     | true =>
      obtain ⟨rfl, rfl⟩ := h
      simp only [cond_true] at hit
      cases h5 : (gI5 p0 cur).run with
      | none => rw [h5] at hit; simp at hit
      | some c5 =>
       rw [h5] at hit
       refine YTops.step rfl (YTops.nil ?_)
       show YT _ _ _ _ _ _ _
       refine YT.cond (b := false) rfl (YT.skip ?_)
       show YT _ _ _ _ _ _ _
       refine YT.gst (st' := ((xI p0 l cur k).D 58).st) ?_ (YT.piece (kI5 p0 l cur k) mixed h5 (by rfl) fun s g => ?_)
       ·exact Gst.ext (xI p0 l cur k) rfl rfl (by rfl) rfl (by rfl) (by rfl)
       ·show YT _ _ _ _ _ _ _
        refine YT.gst g (YT.piece (kI8 p0 l c5 k) mixed (r := ()) rfl (by rfl) fun s g => ?_)
        exact ⟨m, Nat.lt_succ_self m, rfl, (c5, wi64 (k + 1)), g, hit⟩
     | false =>
      obtain ⟨rfl, rfl⟩ := h
      simp only [cond_false, Option.some.injEq] at hit
      subst hit
      refine YTops.step rfl (YTops.nil ?_)
      show YT _ _ _ _ _ _ _
      refine YT.cond (b := true) rfl (YT.ret ?_)
      exact ⟨.inr rfl, 58, _, _, Gst.same _, rfl, cur, rfl⟩
noncomputable def c87 : Code := Tryd.f87.body.getD .skip
def cS : Code → Code
 | .scope y => y
 | _ => .skip
def fTs : List (Nat × V) := [(2, .ptr 2 0 0), (4, .ptr 4 0 0), (5, .ptr 5 0 0)]
def fBs (p0 : SRouter) (p : Int) (ok : Bool) : List (Nat × Blk) := [(2, ⟨1, true, [[.snap (natC p0.fNat)]]⟩), (4, ⟨1, true, [[.int .i64 p]]⟩), (5, ⟨1, true, [[.bool ok]]⟩)]
def xF (p0 : SRouter) (own : Int) : Ext := Ext.lit .normal (argTs [.snap (natC p0.fNat), .int .i64 own]) []
def xF0 (p0 : SRouter) (own : Int) : Ext := Ext.lit .normal ((1, .int .i64 own) :: fTs) (fBs p0 0 false)
def xF1 (p0 : SRouter) (own : Int) : Ext := Ext.lit .normal (fTs ++ [(11, .fn 127 [] [.ptr 31 0 0, .ptr 32 0 0])]) (fBs p0 0 false ++ [(31, ⟨1, true, [[.int .i64 own]]⟩), (32, ⟨1, true, [[.snap (natC p0.fNat)]]⟩)])
def xF9 (p0 : SRouter) (e : Exit) (p : Int) (ok : Bool) : Ext := Ext.lit e fTs (fBs p0 p ok)
theorem kF0 (p0 : SRouter) (own : Int) : Piece Tryd.prog GG [1, 2, 4, 5] 29 (cL c87) (xF p0 own) (.done () : TT Unit) (fun _ => xF0 p0 own) := by
 unfold Piece; kernel_rfl
theorem kF1 (p0 : SRouter) (own : Int) : Piece Tryd.prog GG [1, 2, 4, 5, 11] 29 (cL (cL (cR (cS (cR c87))))) (xF0 p0 own) (.call 1003 (s116 p0 own) [] [(2, 32), (3, 31)] fun _ => .done () : TT Unit) (fun _ => xF1 p0 own) := by
 unfold Piece; kernel_rfl
theorem kF9 (p0 : SRouter) : Piece Tryd.prog GG [2, 4, 5] 29 (cR (cR (cS (cR c87)))) (xF9 p0 .normal 0 false) (.done () : TT Unit) (fun _ => xF9 p0 .ret 0 false) := by
 unfold Piece; kernel_rfl
theorem e87 : c87 = .seq (cL c87) (.scope (.seq (.label 0) (.seq (.seq (cL (cL (cR (cS (cR c87))))) (.block 0 (.rangeFunc (.tmp 11) #[12] (rAssign (cRange (Tryd.f87.body.getD .skip))) (rBody (cRange (Tryd.f87.body.getD .skip)))))) (cR (cR (cS (cR c87))))))) := by kernel_rfl
theorem h127 : Tryd.f127.body = some c127 := by kernel_rfl
theorem h127b : (Tryd.f127.name == "runtime.NumGoroutine") = false := by kernel_rfl
theorem h127c : Tryd.f127.results = #[] := by kernel_rfl
theorem h127d : max Tryd.f127.ntmps (1 + 2) = 58 := by kernel_rfl
theorem bs87 (p0 : SRouter) (own : Int) : shB ((xF1 p0 own).D 29).st.b = ofL (allBs p0.fNat 0 false own) := by
 have : ((xF1 p0 own).D 29).st.b = ofL (xF1 p0 own).bs := rfl
 rw [this, shB_ofL]
 have : ((xF1 p0 own).bs.map fun p => (sh p.1, p.2.ren sh)) = allBs p0.fNat 0 false own := by kernel_rfl
 rw [this]
def fBs2 (p0 : SRouter) (p : Int) (ok : Bool) (cur : Int) : List (Nat × Blk) := fBs p0 p ok ++ [(31, ⟨1, true, [[.int .i64 cur]]⟩), (32, ⟨1, true, [[.snap (natC p0.fNat)]]⟩)]
theorem fin87 (p0 : SRouter) (p : Int) (ok : Bool) (cur : Int) : shB (ofL (fBs2 p0 p ok cur)) = ofL (allBs p0.fNat p ok cur) := by
 rw [shB_ofL]
 have : ((fBs2 p0 p ok cur).map fun p => (sh p.1, p.2.ren sh)) = allBs p0.fNat p ok cur := by kernel_rfl
 rw [this]
theorem known_of {n : Nat} {ts : List (Nat × V)} {bs : List (Nat × Blk)} {us : List Nat} (ht : (ts.all fun p => (refsV p.2).all (stOf n ts bs us).u) = true) (hb : (bs.all fun p => (stOf n ts bs us).u p.1 && (refsL p.2.rows.flatten).all (stOf n ts bs us).u) = true) : (stOf n ts bs us).known where
 t := fun i b hm => by
  have hm' : b ∈ refsV (tOf ts i) := hm
  unfold tOf at hm'
  cases hf : ts.find? (fun p => p.1 == i) with
  | none => rw [hf] at hm'; simp [refsV] at hm'
  | some p => rw [hf] at hm'; exact List.all_eq_true.1 (List.all_eq_true.1 ht p (List.mem_of_find?_eq_some hf)) b hm'
 b := fun i k hk => by
  obtain ⟨q, h1, rfl, rfl⟩ := find_b (show ofL bs i = some k from hk)
  have := List.all_eq_true.1 hb q h1
  simp only [Bool.and_eq_true] at this
  exact ⟨this.1, fun b hm => List.all_eq_true.1 this.2 b hm⟩
theorem loop87 (p0 : SRouter) (own : Int) {r : Option Int} (h : freeM p0.fNat own = some r) :
  TV Tryd.prog GG (.rangeFunc (.tmp 11) #[12] (rAssign (cRange (Tryd.f87.body.getD .skip))) (rBody (cRange (Tryd.f87.body.getD .skip)))) ((xF1 p0 own).D 29).st
   (fun e s => match r with | none => e = .normal ∧ Gst GG s ((xF9 p0 .normal 0 false).D 29).st | some p => e = .ret ∧ Gst GG s ((xF9 p0 .ret p true).D 29).st) := by
 have ht : (fun i => renV sh (((xF1 p0 own).D 29).st.t i)) = tOf frTs := by
  have : ((xF1 p0 own).D 29).st.t = tOf (xF1 p0 own).ts := rfl
  rw [this, tOf_shift]
  have : ((xF1 p0 own).ts.map fun p => (p.1, renV sh p.2)) = frTs := by kernel_rfl
  rw [this]
 have it := iter127 p0.fNat own h
 refine TV.range (f := 127) (fi := Tryd.f127) (c := c127) (caps := [.ptr 1000031 0 0, .ptr 1000032 0 0]) (R := outM p0.fNat r) ?_ Tryd.func127 h127 h127b h127c ?_ ?_ ?_
 ·show some ((fun i => renV sh (((xF1 p0 own).D 29).st.t i)) 11) = _
  rw [ht]; rfl
 ·intro b k hk
  exact ((known_of (n := 29) (ts := (xF1 p0 own).ts) (bs := (xF1 p0 own).bs) (us := (xF1 p0 own).us) (by rfl) (by rfl)).b b k hk).1
 ·rw [ht, bs87]
  have e : max Tryd.f127.ntmps (1 + [V.ptr 1000031 0 0, V.ptr 1000032 0 0].length) = 58 := h127d
  rw [e]
  exact it
 ·intro e b' ho
  have key : ∀ (p : Int) (ok : Bool) (e : Exit) (cur : Int), (stOf 29 (xF1 p0 own).ts (fBs2 p0 p ok cur) (xF1 p0 own).us).known ∧ Gst GG (stOf 29 (xF1 p0 own).ts (fBs2 p0 p ok cur) (xF1 p0 own).us) ((xF9 p0 e p ok).D 29).st := fun p ok e cur =>
   ⟨known_of (by rfl) (by rfl), Gst.ext (xF9 p0 e p ok) rfl rfl (by rfl) rfl (by rfl) (by rfl)⟩
  unfold outM at ho
  cases r with
  | none =>
   obtain ⟨rfl, cur, rfl⟩ := ho
   exact ⟨.inl rfl, ofL (fBs2 p0 0 false cur), (fin87 p0 0 false cur).symm, (key 0 false .normal cur).1, rfl, (key 0 false .normal cur).2⟩
  | some p =>
   obtain ⟨rfl, cur, rfl⟩ := ho
   exact ⟨.inr (.inl rfl), ofL (fBs2 p0 p true cur), (fin87 p0 p true cur).symm, (key p true .ret cur).1, rfl, (key p true .ret cur).2⟩
theorem free87 (p0 : SRouter) (own : Int) {r : Option Int} (h : freeM p0.fNat own = some r) : CallC Tryd.prog GG 87 [.snap (natC p0.fNat), .int .i64 own] (ofL []) (.tup [.int .i64 (r.getD 0), .bool r.isSome]) (ofL []) := by
 have hb : Tryd.f87.body = some c87 := by kernel_rfl
 refine callC_of_TV (n := 29) Tryd.func87 hb (by kernel_rfl) rfl ?_
 have e0 : entry 29 [.snap (natC p0.fNat), .int .i64 own] (ofL []) = ((xF p0 own).D 29).st := (entry_ext (x := xF p0 own) (by rfl) (by rfl) 29).symm
 rw [e0]
 refine TV.rel (Q' := fun e s => e = .ret ∧ Gst GG s ((xF9 p0 .ret (r.getD 0) r.isSome).D 29).st) ?_ fun e s hq => ?_
 ·rw [e87]
  refine TV.seq (TV.piece (kF0 p0 own) mixed (r := ()) rfl (by rfl) fun s g => ?_)
  refine TV.ghost g (TV.scope ?_ (by rintro l st ⟨h, _⟩; cases h))
  refine TV.seq (TV.label ?_)
  refine TV.seq (TV.seq (TV.piece (kF1 p0 own) mixed (r := ()) rfl (by rfl) fun s g => ?_))
  refine TV.ghost g (TV.block ((loop87 p0 own h).mono fun e s hs => ?_))
  cases r with
  | none =>
   obtain ⟨rfl, g⟩ := hs
   exact TV.ghost g (TV.piece (kF9 p0) mixed (r := ()) rfl (by rfl) fun s g => ⟨rfl, g⟩)
  | some p =>
   obtain ⟨rfl, g⟩ := hs
   exact ⟨rfl, g⟩
 ·obtain ⟨rfl, g⟩ := hq
  exact Rel.ghost g (Rel.of ⟨.inr rfl, rfl, fun b k hk => by simp [ofL] at hk⟩)
noncomputable def s87 (p0 : SRouter) (own : Int) : EV.Spec Tryd.prog GG (Option Int) :=
 ⟨87, [.snap (natC p0.fNat), .int .i64 own], [], freeM p0.fNat own, fun r => .tup [.int .i64 (r.getD 0), .bool r.isSome], fun _ => [], [], fun _ _ h => by simp at h, fun _ h => free87 p0 own h⟩
end Go.Proofs.YtdiagiflihpidaaDoor
namespace Go.Proofs.YtdiagiflihpidaaDoor
open Go Go.EV
set_option maxRecDepth 100000
noncomputable def g80 (p0 : Int) : TT (Bool) :=
 .cnd 1 [2]
 (.br 1004 (decide ((1 : Int) ≤ p0))
  (.done (decide (p0 ≤ 3)))
  (.done false))
 (fun (c1 : Bool) => [.bool c1]) fun c1 =>
 .done c1
theorem k80 (p0 : Int) : FnD Tryd.prog GG [0, 2] Tryd.f80 [.int .i64 p0] (g80 p0) (fun r => .bool r) := by unfold FnD; kernel_rfl
noncomputable def s80 (p0 : Int) : EV.Spec Tryd.prog GG (Bool) := .ofFn 80 mixed Tryd.func80 (k80 p0)
noncomputable def g118 (p0 : ByteArray) : TT (SHost × Int) :=
 .cnd 1 [11]
 (.br 1005 ((p0.size : Int) != 4)
  (.done ((p0.size : Int) != 16))
  (.done false))
 (fun (c8 : Bool) => [.bool c8]) fun c8 =>
 .br 0 c8
 (.done ((SHost.mk ByteArray.empty), 2))
 (.done ((SHost.mk p0), 0))
theorem k118 (p0 : ByteArray) : FnD Tryd.prog GG [0, 2, 3, 11] Tryd.f118 [.str p0] (g118 p0) (fun r => .tup [.agg [.str r.1.fs], .int .i64 r.2]) := by unfold FnD; kernel_rfl
noncomputable def s118 (p0 : ByteArray) : EV.Spec Tryd.prog GG (SHost × Int) := .ofFn 118 mixed Tryd.func118 (k118 p0)
noncomputable def g94 (p0 : SAddr) : TT (Int) :=
 .call 1003 (s118 p0.fHost) [] [] fun r9 =>
 .cnd 2 [22]
 (.br 2004 (r9.2 != 0)
  (.done true)
  (.br 2009 (decide (p0.fPort < 0))
   (.done true)
   (.done (decide ((65535 : Int) < p0.fPort)))))
 (fun (c10 : Bool) => [.bool c10]) fun c10 =>
 .br 0 c10
 (.done 2)
 (.done 0)
theorem k94 (p0 : SAddr) : FnD Tryd.prog GG [0, 1, 2, 4, 22] Tryd.f94 [.agg [.str p0.fHost, .int .i64 p0.fPort]] (g94 p0) (fun r => .int .i64 r) := by unfold FnD; kernel_rfl
noncomputable def s94 (p0 : SAddr) : EV.Spec Tryd.prog GG (Int) := .ofFn 94 mixed Tryd.func94 (k94 p0)
noncomputable def g84 (p0 : SRouter) (p1 : SAddr) : TT (Bool) :=
 .cnd 1 [4]
 (.call 1002 (s94 p1) [] [] fun r11 =>
  .br 1005 (r11 == 0)
  (.br 1010 (decide ((1 : Int) ≤ p1.fPort))
   (.done ((p1.fHost.size : Int) == (p0.fNat.fHost.size : Int)))
   (.done false))
  (.done false))
 (fun (c12 : Bool) => [.bool c12]) fun c12 =>
 .done c12
theorem k84 (p0 : SRouter) (p1 : SAddr) : FnD Tryd.prog GG [0, 1, 3, 4] Tryd.f84 [.snap [.int .i64 p0.fNat.fMapping, .int .i64 p0.fNat.fFilter, .int .i64 p0.fNat.fTimeout, .bool p0.fNat.fHairpin, .str p0.fNat.fHost, .int .i64 p0.fNat.fLow, .int .i64 p0.fNat.fHigh, .int .i64 p0.fNat.fNow, .sl false 7 (List.map tySBinding.c p0.fNat.fTable)], .agg [.str p1.fHost, .int .i64 p1.fPort]] (g84 p0 p1) (fun r => .bool r) := by unfold FnD; kernel_rfl
noncomputable def s84 (p0 : SRouter) (p1 : SAddr) : EV.Spec Tryd.prog GG (Bool) := .ofFn 84 mixed Tryd.func84 (k84 p0 p1)
noncomputable def g111 (p0 : SRouter) (p1 : Int) (p2 : SAddr) : TT (Bool) :=
 .br 0 (p1 == 1)
 (.done ((decide (p2.fHost = ByteArray.empty)) && ((p2.fPort == 0) && true)))
 (.br 0 (p1 == 2)
  (.cnd 5 [6]
   (.br 5005 (p2.fPort == 0)
    (.call 5009 (s84 p0 (SAddr.mk p2.fHost 1)) [] [] fun r14 =>
     .done r14)
    (.done false))
   (fun (c15 : Bool) => [.bool c15]) fun c15 =>
   .done c15)
  (.call 6003 (s84 p0 p2) [] [] fun r16 =>
   .done r16))
theorem k111 (p0 : SRouter) (p1 : Int) (p2 : SAddr) : FnD Tryd.prog GG [0, 1, 2, 5, 6, 7, 8, 13] Tryd.f111 [.snap [.int .i64 p0.fNat.fMapping, .int .i64 p0.fNat.fFilter, .int .i64 p0.fNat.fTimeout, .bool p0.fNat.fHairpin, .str p0.fNat.fHost, .int .i64 p0.fNat.fLow, .int .i64 p0.fNat.fHigh, .int .i64 p0.fNat.fNow, .sl false 7 (List.map tySBinding.c p0.fNat.fTable)], .int .i64 p1, .agg [.str p2.fHost, .int .i64 p2.fPort]] (g111 p0 p1 p2) (fun r => .bool r) := by unfold FnD; kernel_rfl
noncomputable def s111 (p0 : SRouter) (p1 : Int) (p2 : SAddr) : EV.Spec Tryd.prog GG (Bool) := .ofFn 111 mixed Tryd.func111 (k111 p0 p1 p2)
noncomputable def g113 (p0 : SAddr) (p1 : SRouter) : TT (Bool) :=
 .call 1008 (s111 p1 p1.fNat.fFilter p0) [] [] fun r21 =>
 .done r21
theorem k113 (p0 : SAddr) (p1 : SRouter) : FnD Tryd.prog GG [0, 1, 2, 3] Tryd.f113 [.agg [.str p0.fHost, .int .i64 p0.fPort], .snap [.snap [.int .i64 p1.fNat.fMapping, .int .i64 p1.fNat.fFilter, .int .i64 p1.fNat.fTimeout, .bool p1.fNat.fHairpin, .str p1.fNat.fHost, .int .i64 p1.fNat.fLow, .int .i64 p1.fNat.fHigh, .int .i64 p1.fNat.fNow, .sl false 7 (List.map tySBinding.c p1.fNat.fTable)]]] (g113 p0 p1) (fun r => .bool r) := by unfold FnD; kernel_rfl
noncomputable def s113 (p0 : SAddr) (p1 : SRouter) : EV.Spec Tryd.prog GG (Bool) := .ofFn 113 mixed Tryd.func113 (k113 p0 p1)
noncomputable def g114 (p0 : SAddr) (p1 : SAddr) : TT (Bool) :=
 .done ((decide (p0.fHost = p1.fHost)) && ((p0.fPort == p1.fPort) && true))
theorem k114 (p0 : SAddr) (p1 : SAddr) : FnD Tryd.prog GG [0, 1, 2, 3, 4] Tryd.f114 [.agg [.str p0.fHost, .int .i64 p0.fPort], .agg [.str p1.fHost, .int .i64 p1.fPort]] (g114 p0 p1) (fun r => .bool r) := by unfold FnD; kernel_rfl
noncomputable def s114 (p0 : SAddr) (p1 : SAddr) : EV.Spec Tryd.prog GG (Bool) := .ofFn 114 mixed Tryd.func114 (k114 p0 p1)
noncomputable def g126 (p0 : SAddr) (p1 : SAddr) : TT (Bool) :=
 .call 1004 (s114 p1 p0) [] [] fun r25 =>
 .done r25
theorem k126 (p0 : SAddr) (p1 : SAddr) : FnD Tryd.prog GG [0, 1, 2, 3, 4] Tryd.f126 [.agg [.str p0.fHost, .int .i64 p0.fPort], .snap [.fn 114 [] []], .snap [.str p1.fHost, .int .i64 p1.fPort]] (g126 p0 p1) (fun r => .bool r) := by unfold FnD; kernel_rfl
noncomputable def s126 (p0 : SAddr) (p1 : SAddr) : EV.Spec Tryd.prog GG (Bool) := .ofFn 126 mixed Tryd.func126 (k126 p0 p1)
noncomputable def g128 (p0 : (List SAddr)) (p1 : SAddr) : TT (Int) :=
 .bind2 1
 (.lp (fun (l26 : Int) => Ext.lit .normal [(0, .sl false 2 (List.map tySAddr.c p0)), (1, .fn 126 [] [.snap [.fn 114 [] []], .snap [.str p1.fHost, .int .i64 p1.fPort]]), (4, .int .i64 0), (7, .int .i64 (mlen tySAddr p0)), (8, .int .i64 l26)] [])
  (fun l26 =>
   .br 0 (decide (l26 < (mlen tySAddr p0)))
   (.row 4004 tySAddr p0 l26.toNat (decide (0 ≤ l26)) fun x27 =>
    .call 4006 (s126 x27 p1) [] [] fun r28 =>
    .br 0 r28
    (.done (.inr (.inl l26)))
    (.done (.inl (wi64 (l26 + 1)))))
   (.done (.inr (.inr ()))))
  0)
 (fun (e29 : Int) => Ext.lit .ret [(4, .int .i64 e29)] [])
 (fun (_ : Unit) => Ext.lit (.exit 0) [(4, .int .i64 0)] [])
 (fun e29 =>
  .done e29)
 (fun _ =>
  .done (-1))
theorem k128 (p0 : (List SAddr)) (p1 : SAddr) : FnD Tryd.prog GG [0, 1, 4, 5, 7, 8, 9, 16] Tryd.f128 [.sl false 2 (List.map tySAddr.c p0), .fn 126 [] [.snap [.fn 114 [] []], .snap [.str p1.fHost, .int .i64 p1.fPort]]] (g128 p0 p1) (fun r => .int .i64 r) := by unfold FnD; kernel_rfl
noncomputable def s128 (p0 : (List SAddr)) (p1 : SAddr) : EV.Spec Tryd.prog GG (Int) := .ofFn 128 mixed Tryd.func128 (k128 p0 p1)
noncomputable def g125 (p0 : (List SAddr)) (p1 : SAddr) : TT (Bool) :=
 .call 1003 (s128 p0 p1) [] [] fun r31 =>
 .done (decide ((0 : Int) ≤ r31))
theorem k125 (p0 : (List SAddr)) (p1 : SAddr) : FnD Tryd.prog GG [0, 1, 4] Tryd.f125 [.sl false 2 (List.map tySAddr.c p0), .fn 126 [] [.snap [.fn 114 [] []], .snap [.str p1.fHost, .int .i64 p1.fPort]]] (g125 p0 p1) (fun r => .bool r) := by unfold FnD; kernel_rfl
noncomputable def s125 (p0 : (List SAddr)) (p1 : SAddr) : EV.Spec Tryd.prog GG (Bool) := .ofFn 125 mixed Tryd.func125 (k125 p0 p1)
noncomputable def g112 (p0 : (List SAddr)) (p1 : SRouter) : TT (Bool) :=
 .bind2 1
 (.lp (fun (l24 : Int) => Ext.lit .normal [(0, .sl false 2 (List.map tySAddr.c p0)), (1, .fn 113 [] [.snap [.snap [.int .i64 p1.fNat.fMapping, .int .i64 p1.fNat.fFilter, .int .i64 p1.fNat.fTimeout, .bool p1.fNat.fHairpin, .str p1.fNat.fHost, .int .i64 p1.fNat.fLow, .int .i64 p1.fNat.fHigh, .int .i64 p1.fNat.fNow, .sl false 7 (List.map tySBinding.c p1.fNat.fTable)]]]), (5, .ptr 5 0 0), (6, .bool false), (9, .sl false 2 (List.map tySAddr.c p0)), (10, .int .i64 (mlen tySAddr p0)), (11, .int .i64 l24)] [(5, ⟨1, true, [[.fn 114 [] []]]⟩)])
  (fun l24 =>
   .br 0 (decide (l24 < (mlen tySAddr p0)))
   (.row 3002 tySAddr p0 l24.toNat (decide (0 ≤ l24)) fun x25 =>
    .cnd 4 [26]
    (.call 4003 (s113 x25 p1) [] [] fun r26 =>
     .br 4006 (!r26)
     (.done true)
     (.chk 4008 (decide (0 ≤ l24) && decide (l24 ≤ ((mlenn tySAddr p0) : Int))) (.re 4008 (ReW.cutHi 23 2 tySAddr p0 l24.toNat) (.view 4010 (s125 (p0.take l24.toNat) x25) [] fun r27 =>
      .done r27))))
    (fun (c28 : Bool) => [.bool c28]) fun c28 =>
    .br 0 c28
    (.done (.inr (.inl ())))
    (.done (.inl (wi64 (l24 + 1)))))
   (.done (.inr (.inr ()))))
  0)
 (fun (_ : Unit) => Ext.lit .ret [(6, .bool false)] [])
 (fun (_ : Unit) => Ext.lit (.exit 0) [(6, .bool false)] [])
 (fun _ =>
  .done false)
 (fun _ =>
  .done true)
theorem k112 (p0 : (List SAddr)) (p1 : SRouter) : FnD Tryd.prog GG [0, 1, 2, 5, 6, 7, 8, 9, 10, 11, 12, 26] Tryd.f112 [.sl false 2 (List.map tySAddr.c p0), .fn 113 [] [.snap [.snap [.int .i64 p1.fNat.fMapping, .int .i64 p1.fNat.fFilter, .int .i64 p1.fNat.fTimeout, .bool p1.fNat.fHairpin, .str p1.fNat.fHost, .int .i64 p1.fNat.fLow, .int .i64 p1.fNat.fHigh, .int .i64 p1.fNat.fNow, .sl false 7 (List.map tySBinding.c p1.fNat.fTable)]]], .fn 114 [] []] (g112 p0 p1) (fun r => .bool r) := by unfold FnD; kernel_rfl
noncomputable def s112 (p0 : (List SAddr)) (p1 : SRouter) : EV.Spec Tryd.prog GG (Bool) := .ofFn 112 mixed Tryd.func112 (k112 p0 p1)
noncomputable def g82 (p0 : SRouter) (p1 : SBinding) : TT (Bool) :=
 .cnd 1 [78]
 (.call 1004 (s84 p0 p1.fInside) [] [] fun r13 =>
  .br 1007 (!r13)
  (.done true)
  (.br 1018 (decide (p1.fInside.fHost = p0.fNat.fHost))
   (.done true)
   (.call 1026 (s111 p0 p0.fNat.fMapping p1.fPeer) [] [] fun r17 =>
    .br 1030 (!r17)
    (.done true)
    (.br 1040 (decide (p1.fPort < p0.fNat.fLow))
     (.done true)
     (.br 1050 (decide (p0.fNat.fHigh < p1.fPort))
      (.done true)
      (.br 1060 (decide (p1.fUntil ≤ p0.fNat.fNow))
       (.done true)
       (.done (decide ((wi64 (p0.fNat.fNow + p0.fNat.fTimeout)) < p1.fUntil)))))))))
 (fun (c18 : Bool) => [.bool c18]) fun c18 =>
 .br 0 c18
 (.done false)
 (.br 0 (p0.fNat.fFilter == 1)
  (.done ((mlen tySAddr p1.fOpen) == 0))
  (.cnd 5 [4]
   (.br 5006 (decide ((1 : Int) ≤ (mlen tySAddr p1.fOpen)))
    (.br 5012 (decide ((mlen tySAddr p1.fOpen) ≤ 16))
     (.view 5015 (s112 p1.fOpen p0) [] fun r31 =>
      .done r31)
     (.done false))
    (.done false))
   (fun (c32 : Bool) => [.bool c32]) fun c32 =>
   .done c32))
theorem k82 (p0 : SRouter) (p1 : SBinding) : FnD Tryd.prog GG [0, 1, 2, 3, 4, 78, 84] Tryd.f82 [.snap [.int .i64 p0.fNat.fMapping, .int .i64 p0.fNat.fFilter, .int .i64 p0.fNat.fTimeout, .bool p0.fNat.fHairpin, .str p0.fNat.fHost, .int .i64 p0.fNat.fLow, .int .i64 p0.fNat.fHigh, .int .i64 p0.fNat.fNow, .sl false 7 (List.map tySBinding.c p0.fNat.fTable)], .agg [.str p1.fInside.fHost, .int .i64 p1.fInside.fPort, .str p1.fPeer.fHost, .int .i64 p1.fPeer.fPort, .int .i64 p1.fPort, .int .i64 p1.fUntil, .sl false 2 (List.map tySAddr.c p1.fOpen)]] (g82 p0 p1) (fun r => .bool r) := by unfold FnD; kernel_rfl
noncomputable def s82 (p0 : SRouter) (p1 : SBinding) : EV.Spec Tryd.prog GG (Bool) := .ofFn 82 mixed Tryd.func82 (k82 p0 p1)
noncomputable def g83 (p0 : SBinding) (p1 : SBinding) : TT (Bool) :=
 .cnd 1 [4]
 (.br 1007 (p0.fPort == p1.fPort)
  (.done true)
  (.br 1013 ((decide (p0.fInside.fHost = p1.fInside.fHost)) && ((p0.fInside.fPort == p1.fInside.fPort) && true))
   (.done ((decide (p0.fPeer.fHost = p1.fPeer.fHost)) && ((p0.fPeer.fPort == p1.fPeer.fPort) && true)))
   (.done false)))
 (fun (c36 : Bool) => [.bool c36]) fun c36 =>
 .done c36
theorem k83 (p0 : SBinding) (p1 : SBinding) : FnD Tryd.prog GG [0, 1, 2, 3, 4] Tryd.f83 [.agg [.str p0.fInside.fHost, .int .i64 p0.fInside.fPort, .str p0.fPeer.fHost, .int .i64 p0.fPeer.fPort, .int .i64 p0.fPort, .int .i64 p0.fUntil, .sl false 2 (List.map tySAddr.c p0.fOpen)], .agg [.str p1.fInside.fHost, .int .i64 p1.fInside.fPort, .str p1.fPeer.fHost, .int .i64 p1.fPeer.fPort, .int .i64 p1.fPort, .int .i64 p1.fUntil, .sl false 2 (List.map tySAddr.c p1.fOpen)]] (g83 p0 p1) (fun r => .bool r) := by unfold FnD; kernel_rfl
noncomputable def s83 (p0 : SBinding) (p1 : SBinding) : EV.Spec Tryd.prog GG (Bool) := .ofFn 83 mixed Tryd.func83 (k83 p0 p1)
noncomputable def g110 (p0 : SBinding) (p1 : SBinding) : TT (Bool) :=
 .call 1004 (s83 p1 p0) [] [] fun r37 =>
 .done r37
theorem k110 (p0 : SBinding) (p1 : SBinding) : FnD Tryd.prog GG [0, 1, 2, 3, 4] Tryd.f110 [.agg [.str p0.fInside.fHost, .int .i64 p0.fInside.fPort, .str p0.fPeer.fHost, .int .i64 p0.fPeer.fPort, .int .i64 p0.fPort, .int .i64 p0.fUntil, .sl false 2 (List.map tySAddr.c p0.fOpen)], .snap [.fn 83 [] []], .snap [.str p1.fInside.fHost, .int .i64 p1.fInside.fPort, .str p1.fPeer.fHost, .int .i64 p1.fPeer.fPort, .int .i64 p1.fPort, .int .i64 p1.fUntil, .sl false 2 (List.map tySAddr.c p1.fOpen)]] (g110 p0 p1) (fun r => .bool r) := by unfold FnD; kernel_rfl
noncomputable def s110 (p0 : SBinding) (p1 : SBinding) : EV.Spec Tryd.prog GG (Bool) := .ofFn 110 mixed Tryd.func110 (k110 p0 p1)
noncomputable def g115 (p0 : (List SBinding)) (p1 : SBinding) : TT (Int) :=
 .bind2 1
 (.lp (fun (l37 : Int) => Ext.lit .normal [(0, .sl false 7 (List.map tySBinding.c p0)), (1, .fn 110 [] [.snap [.fn 83 [] []], .snap [.str p1.fInside.fHost, .int .i64 p1.fInside.fPort, .str p1.fPeer.fHost, .int .i64 p1.fPeer.fPort, .int .i64 p1.fPort, .int .i64 p1.fUntil, .sl false 2 (List.map tySAddr.c p1.fOpen)]]), (4, .int .i64 0), (7, .int .i64 (mlen tySBinding p0)), (8, .int .i64 l37)] [])
  (fun l37 =>
   .br 0 (decide (l37 < (mlen tySBinding p0)))
   (.row 4004 tySBinding p0 l37.toNat (decide (0 ≤ l37)) fun x38 =>
    .call 4006 (s110 x38 p1) [] [] fun r39 =>
    .br 0 r39
    (.done (.inr (.inl l37)))
    (.done (.inl (wi64 (l37 + 1)))))
   (.done (.inr (.inr ()))))
  0)
 (fun (e40 : Int) => Ext.lit .ret [(4, .int .i64 e40)] [])
 (fun (_ : Unit) => Ext.lit (.exit 0) [(4, .int .i64 0)] [])
 (fun e40 =>
  .done e40)
 (fun _ =>
  .done (-1))
theorem k115 (p0 : (List SBinding)) (p1 : SBinding) : FnD Tryd.prog GG [0, 1, 4, 5, 7, 8, 9, 16] Tryd.f115 [.sl false 7 (List.map tySBinding.c p0), .fn 110 [] [.snap [.fn 83 [] []], .snap [.str p1.fInside.fHost, .int .i64 p1.fInside.fPort, .str p1.fPeer.fHost, .int .i64 p1.fPeer.fPort, .int .i64 p1.fPort, .int .i64 p1.fUntil, .sl false 2 (List.map tySAddr.c p1.fOpen)]]] (g115 p0 p1) (fun r => .int .i64 r) := by unfold FnD; kernel_rfl
noncomputable def s115 (p0 : (List SBinding)) (p1 : SBinding) : EV.Spec Tryd.prog GG (Int) := .ofFn 115 mixed Tryd.func115 (k115 p0 p1)
noncomputable def g109 (p0 : (List SBinding)) (p1 : SBinding) : TT (Bool) :=
 .call 1003 (s115 p0 p1) [] [] fun r42 =>
 .done (decide ((0 : Int) ≤ r42))
theorem k109 (p0 : (List SBinding)) (p1 : SBinding) : FnD Tryd.prog GG [0, 1, 4] Tryd.f109 [.sl false 7 (List.map tySBinding.c p0), .fn 110 [] [.snap [.fn 83 [] []], .snap [.str p1.fInside.fHost, .int .i64 p1.fInside.fPort, .str p1.fPeer.fHost, .int .i64 p1.fPeer.fPort, .int .i64 p1.fPort, .int .i64 p1.fUntil, .sl false 2 (List.map tySAddr.c p1.fOpen)]]] (g109 p0 p1) (fun r => .bool r) := by unfold FnD; kernel_rfl
noncomputable def s109 (p0 : (List SBinding)) (p1 : SBinding) : EV.Spec Tryd.prog GG (Bool) := .ofFn 109 mixed Tryd.func109 (k109 p0 p1)
noncomputable def g81 (p0 : (List SBinding)) (p1 : SRouter) : TT (Bool) :=
 .bind2 1
 (.lp (fun (l11 : Int) => Ext.lit .normal [(0, .sl false 7 (List.map tySBinding.c p0)), (1, .fn 82 [.snap [.int .i64 p1.fNat.fMapping, .int .i64 p1.fNat.fFilter, .int .i64 p1.fNat.fTimeout, .bool p1.fNat.fHairpin, .str p1.fNat.fHost, .int .i64 p1.fNat.fLow, .int .i64 p1.fNat.fHigh, .int .i64 p1.fNat.fNow, .sl false 7 (List.map tySBinding.c p1.fNat.fTable)]] []), (5, .ptr 5 0 0), (6, .bool false), (9, .sl false 7 (List.map tySBinding.c p0)), (10, .int .i64 (mlen tySBinding p0)), (11, .int .i64 l11)] [(5, ⟨1, true, [[.fn 83 [] []]]⟩)])
  (fun l11 =>
   .br 0 (decide (l11 < (mlen tySBinding p0)))
   (.row 3002 tySBinding p0 l11.toNat (decide (0 ≤ l11)) fun x12 =>
    .cnd 4 [26]
    (.call 4003 (s82 p1 x12) [] [] fun r13 =>
     .br 4006 (!r13)
     (.done true)
     (.chk 4008 (decide (0 ≤ l11) && decide (l11 ≤ ((mlenn tySBinding p0) : Int))) (.re 4008 (ReW.cutHi 23 7 tySBinding p0 l11.toNat) (.view 4010 (s109 (p0.take l11.toNat) x12) [] fun r14 =>
      .done r14))))
    (fun (c15 : Bool) => [.bool c15]) fun c15 =>
    .br 0 c15
    (.done (.inr (.inl ())))
    (.done (.inl (wi64 (l11 + 1)))))
   (.done (.inr (.inr ()))))
  0)
 (fun (_ : Unit) => Ext.lit .ret [(6, .bool false)] [])
 (fun (_ : Unit) => Ext.lit (.exit 0) [(6, .bool false)] [])
 (fun _ =>
  .done false)
 (fun _ =>
  .done true)
theorem k81 (p0 : (List SBinding)) (p1 : SRouter) : FnD Tryd.prog GG [0, 1, 2, 5, 6, 7, 8, 9, 10, 11, 12, 26] Tryd.f81 [.sl false 7 (List.map tySBinding.c p0), .fn 82 [.snap [.int .i64 p1.fNat.fMapping, .int .i64 p1.fNat.fFilter, .int .i64 p1.fNat.fTimeout, .bool p1.fNat.fHairpin, .str p1.fNat.fHost, .int .i64 p1.fNat.fLow, .int .i64 p1.fNat.fHigh, .int .i64 p1.fNat.fNow, .sl false 7 (List.map tySBinding.c p1.fNat.fTable)]] [], .fn 83 [] []] (g81 p0 p1) (fun r => .bool r) := by unfold FnD; kernel_rfl
noncomputable def s81 (p0 : (List SBinding)) (p1 : SRouter) : EV.Spec Tryd.prog GG (Bool) := .ofFn 81 mixed Tryd.func81 (k81 p0 p1)
noncomputable def g55 (p0 : SRouter) : TT (Bool) :=
 .cnd 1 [52]
 (.call 1006 (s80 p0.fNat.fMapping) [] [] fun r2 =>
  .br 1009 (!r2)
  (.done true)
  (.call 1014 (s80 p0.fNat.fFilter) [] [] fun r3 =>
   .br 1018 (!r3)
   (.done true)
   (.br 1026 (decide (p0.fNat.fTimeout < 1))
    (.done true)
    (.br 1034 (decide ((3600000 : Int) < p0.fNat.fTimeout))
     (.done true)
     (.br 1042 ((p0.fNat.fHost.size : Int) != 4)
      (.done ((p0.fNat.fHost.size : Int) != 16))
      (.done false))))))
 (fun (c4 : Bool) => [.bool c4]) fun c4 =>
 .br 0 c4
 (.done false)
 (.cnd 3 [109]
  (.br 3008 (decide (p0.fNat.fLow < 1))
   (.done true)
   (.br 3016 (decide ((65535 : Int) < p0.fNat.fHigh))
    (.done true)
    (.br 3029 (decide (p0.fNat.fHigh < p0.fNat.fLow))
     (.done true)
     (.br 3043 (decide ((wi64 (p0.fNat.fLow + 64)) ≤ p0.fNat.fHigh))
      (.done true)
      (.br 3051 (decide (p0.fNat.fNow < 0))
       (.done true)
       (.done (decide ((1099511627776 : Int) < p0.fNat.fNow))))))))
  (fun (c5 : Bool) => [.bool c5]) fun c5 =>
  .br 0 c5
  (.done false)
  (.call 5008 (s81 p0.fNat.fTable p0) [] [] fun r18 =>
   .done r18))
theorem k55 (p0 : SRouter) : FnD Tryd.prog GG [0, 2, 52, 109] Tryd.f55 [.snap [.int .i64 p0.fNat.fMapping, .int .i64 p0.fNat.fFilter, .int .i64 p0.fNat.fTimeout, .bool p0.fNat.fHairpin, .str p0.fNat.fHost, .int .i64 p0.fNat.fLow, .int .i64 p0.fNat.fHigh, .int .i64 p0.fNat.fNow, .sl false 7 (List.map tySBinding.c p0.fNat.fTable)]] (g55 p0) (fun r => .bool r) := by unfold FnD; kernel_rfl
noncomputable def s55 (p0 : SRouter) : EV.Spec Tryd.prog GG (Bool) := .ofFn 55 mixed Tryd.func55 (k55 p0)
end Go.Proofs.YtdiagiflihpidaaDoor
namespace Go.Proofs.YtdiagiflihpidaaDoor
open Go Go.EV
set_option maxRecDepth 100000
end Go.Proofs.YtdiagiflihpidaaDoor
namespace Go.Proofs.YtdiagiflihpidaaDoor
open Go Go.EV
set_option maxRecDepth 100000
noncomputable def g64 (p0 : (List SAddr)) : TT Unit := .app 3003 tySAddr [] p0 24 true (by intros; rfl) (.done ())
theorem k64y : Piece Tryd.prog GG [2] 8 (cloneYes Tryd.f64.body) (Ext.lit .normal [(2, .nilsl)] []) (.done () : TT Unit) (fun _ => Ext.lit .ret [(2, .nilsl)] []) := by unfold Piece; kernel_rfl
theorem k64r (p0 : (List SAddr)) : Piece Tryd.prog GG [0, 2, 5, 6, 7] 8 (cloneRest Tryd.f64.body) (Ext.lit .normal [(0, .sl false 2 (List.map tySAddr.c p0)), (2, .nilsl)] []) (g64 p0) (fun _ => Ext.of .ret [(2, .ref 7 0 ([] ++ p0).length)] [] [BT.of 7 tySAddr 2 ([] ++ p0)] (by rfl)) := by unfold Piece; kernel_rfl
theorem k64 (p0 : (List SAddr)) {r : Unit} (h : (g64 p0).run = some r) : CallC Tryd.prog GG 64 [.sl false 2 (List.map tySAddr.c p0)] (ofL []) (.ref 7 0 p0.length) (ofL [(7, ⟨2, true, List.map tySAddr.c p0⟩)]) :=
 clone_ok (ty := tySAddr) (ops0 := cloneOps0 Tryd.f64.body) (ops1 := cloneOps1 Tryd.f64.body) (yes := cloneYes Tryd.f64.body) (rest := cloneRest Tryd.f64.body) (t := 59) mixed (by decide) Tryd.func64 (by kernel_rfl) (by kernel_rfl) (by kernel_rfl) (by kernel_rfl) (by kernel_rfl) (by kernel_rfl) (by kernel_rfl) (by kernel_rfl) (by kernel_rfl) k64y (k64r p0) (by rfl) h
noncomputable def s64 (p0 : (List SAddr)) : EV.Spec Tryd.prog GG Unit := ⟨64, [.sl false 2 (List.map tySAddr.c p0)], [], (g64 p0).run, fun _ => .ref 7 0 p0.length, fun _ => [(7, ⟨2, true, List.map tySAddr.c p0⟩)], [7], fun _ p hp _ => by
 rw [List.mem_singleton.1 hp]; exact tySAddr.data _, fun _ h => k64 p0 h⟩
noncomputable def g56 (p0 : SNat) (p1 : Int) (p2 : (List SAddr)) : TT ((Int) ⊕ ((List SBinding))) :=
 .view 2002 (s55 (SRouter.mk p0)) [] fun r103 =>
 .br 0 (!r103)
 (.done (.inl 130))
 (.cnd 4 [26]
  (.br 4006 (decide (p1 < p0.fNow))
   (.done true)
   (.done (decide ((1099511627776 : Int) < p1))))
  (fun (c104 : Bool) => [.bool c104]) fun c104 =>
  .br 0 c104
  (.done (.inl 2))
  (.bind2 1
   (.lp (fun (l108 : Int) => Ext.lit .normal [(1, .int .i64 p1), (3, .ptr 3 0 0), (6, .nilp), (7, .int .i64 0), (8, .ptr 15 0 0), (27, .sl false 2 (List.map tySAddr.c p2)), (28, .int .i64 (mlen tySAddr p2)), (29, .int .i64 l108)] [(3, ⟨9, true, [[.int .i64 p0.fMapping, .int .i64 p0.fFilter, .int .i64 p0.fTimeout, .bool p0.fHairpin, .str p0.fHost, .int .i64 p0.fLow, .int .i64 p0.fHigh, .int .i64 p0.fNow, .sl false 7 (List.map tySBinding.c p0.fTable)]]⟩), (15, ⟨9, true, [[.int .i64 p0.fMapping, .int .i64 p0.fFilter, .int .i64 p0.fTimeout, .bool p0.fHairpin, .str p0.fHost, .int .i64 p0.fLow, .int .i64 p0.fHigh, .int .i64 p0.fNow, .sl false 7 (List.map tySBinding.c p0.fTable)]]⟩)])
    (fun l108 =>
     .br 0 (decide (l108 < (mlen tySAddr p2)))
     (.row 8001 tySAddr p2 l108.toNat (decide (0 ≤ l108)) fun x109 =>
      .view 9003 (s84 (SRouter.mk p0) x109) [] fun r110 =>
      .br 0 (!r110)
      (.done (.inr (.inl ())))
      (.done (.inl (wi64 (l108 + 1)))))
     (.done (.inr (.inr ()))))
    0)
   (fun (e111 : Unit) => Ext.lit .ret [(1, .int .i64 p1), (3, .ptr 3 0 0), (6, .nilp), (7, .int .i64 2), (8, .ptr 15 0 0)] [(3, ⟨9, true, [[.int .i64 p0.fMapping, .int .i64 p0.fFilter, .int .i64 p0.fTimeout, .bool p0.fHairpin, .str p0.fHost, .int .i64 p0.fLow, .int .i64 p0.fHigh, .int .i64 p0.fNow, .sl false 7 (List.map tySBinding.c p0.fTable)]]⟩), (15, ⟨9, true, [[.int .i64 p0.fMapping, .int .i64 p0.fFilter, .int .i64 p0.fTimeout, .bool p0.fHairpin, .str p0.fHost, .int .i64 p0.fLow, .int .i64 p0.fHigh, .int .i64 p0.fNow, .sl false 7 (List.map tySBinding.c p0.fTable)]]⟩)])
   (fun (e112 : Unit) => Ext.lit (.exit 0) [(1, .int .i64 p1), (3, .ptr 3 0 0), (6, .nilp), (7, .int .i64 0), (8, .ptr 15 0 0)] [(3, ⟨9, true, [[.int .i64 p0.fMapping, .int .i64 p0.fFilter, .int .i64 p0.fTimeout, .bool p0.fHairpin, .str p0.fHost, .int .i64 p0.fLow, .int .i64 p0.fHigh, .int .i64 p0.fNow, .sl false 7 (List.map tySBinding.c p0.fTable)]]⟩), (15, ⟨9, true, [[.int .i64 p0.fMapping, .int .i64 p0.fFilter, .int .i64 p0.fTimeout, .bool p0.fHairpin, .str p0.fHost, .int .i64 p0.fLow, .int .i64 p0.fHigh, .int .i64 p0.fNow, .sl false 7 (List.map tySBinding.c p0.fTable)]]⟩)])
   (fun e111 =>
    .done (.inl 2))
   (fun e112 =>
    .gh 1 (.virtC 600056 15 8 7) (.bind 0
    (.lp (fun (l116 : (List SBinding) × Int) => Ext.of .normal [(1, .int .i64 p1), (6, .nilp), (7, .int .i64 0), (8, .ptr 15 0 0), (48, .sl false 7 (List.map tySBinding.c p0.fTable)), (49, .int .i64 (mlen tySBinding p0.fTable)), (50, .int .i64 l116.2)] [(15, ⟨9, true, [[.int .i64 p0.fMapping, .int .i64 p0.fFilter, .int .i64 p0.fTimeout, .bool p0.fHairpin, .str p0.fHost, .int .i64 p0.fLow, .int .i64 p0.fHigh, .int .i64 p1, .ref 600056 0 l116.1.length]]⟩)] [BT.of 600056 tySBindingO6 7 l116.1 true] (by rfl))
     (fun l116 =>
      .br 0 (decide (l116.2 < (mlen tySBinding p0.fTable)))
      (.row 15001 tySBinding p0.fTable l116.2.toNat (decide (0 ≤ l116.2)) fun x117 =>
       .br 0 (decide (p1 < x117.fUntil))
       (.call 17003 (s64 x117.fOpen) [] [(7, 500060)] fun r118 =>
        .appn 18009 tySBindingO6 l116.1 x117 6 500060 tySAddr x117.fOpen 88 (.gh 0 (.drop [600056]) (.gh 0 (.ren 70 600056) (.done (.inl ((l116.1 ++ [x117]), (wi64 (l116.2 + 1))))))))
       (.done (.inl (l116.1, (wi64 (l116.2 + 1))))))
      (.done (.inr l116.1)))
     ([], 0))
    (fun (e119 : (List SBinding)) => Ext.of (.exit 2) [(6, .nilp), (7, .int .i64 0), (8, .ptr 15 0 0)] [(15, ⟨9, true, [[.int .i64 p0.fMapping, .int .i64 p0.fFilter, .int .i64 p0.fTimeout, .bool p0.fHairpin, .str p0.fHost, .int .i64 p0.fLow, .int .i64 p0.fHigh, .int .i64 p1, .ref 600056 0 e119.length]]⟩)] [BT.of 600056 tySBindingO6 7 e119 true] (by rfl))
    (fun e119 =>
     .done (.inr e119))))))
theorem k56 (p0 : SNat) (p1 : Int) (p2 : (List SAddr)) : FnB Tryd.prog GG [0, 1, 2, 3, 6, 7, 8, 10, 12, 18, 26, 27, 28, 29, 30, 36, 48, 49, 50, 51, 57] Tryd.f56 [.agg [.int .i64 p0.fMapping, .int .i64 p0.fFilter, .int .i64 p0.fTimeout, .bool p0.fHairpin, .str p0.fHost, .int .i64 p0.fLow, .int .i64 p0.fHigh, .int .i64 p0.fNow, .sl false 7 (List.map tySBinding.c p0.fTable)], .int .i64 p1, .sl false 2 (List.map tySAddr.c p2)] (Ext.of .normal (argTs [.agg [.int .i64 p0.fMapping, .int .i64 p0.fFilter, .int .i64 p0.fTimeout, .bool p0.fHairpin, .str p0.fHost, .int .i64 p0.fLow, .int .i64 p0.fHigh, .int .i64 p0.fNow, .sl false 7 (List.map tySBinding.c p0.fTable)], .int .i64 p1, .sl false 2 (List.map tySAddr.c p2)]) [] [] (by rfl)) (g56 p0 p1 p2) (Sum.elim (fun (r : Int) => .tup [.nilp, .int .i64 r]) (fun (_ : (List SBinding)) => .tup [.ptr 15 0 0, .int .i64 0])) (Sum.elim (fun (_ : Int) => Ext.of .normal [] [] [] (by rfl)) (fun (r : (List SBinding)) => Ext.of .normal [] [(15, ⟨9, true, [[.int .i64 p0.fMapping, .int .i64 p0.fFilter, .int .i64 p0.fTimeout, .bool p0.fHairpin, .str p0.fHost, .int .i64 p0.fLow, .int .i64 p0.fHigh, .int .i64 p1, .ref 600056 0 r.length]]⟩)] [BT.of 600056 tySBindingO6 7 r true] (by rfl))) := by unfold FnB; kernel_rfl
noncomputable def s56 (p0 : SNat) (p1 : Int) (p2 : (List SAddr)) : EV.Spec Tryd.prog GG ((Int) ⊕ ((List SBinding))) := .ofFnB 56 [600056] mixed Tryd.func56 rfl (fun r => by cases r <;> rfl) (k56 p0 p1 p2)
noncomputable def g56_1 (p0 : SNat) (p1 : Int) (p2 : (List SAddr)) : TT ((Int) ⊕ ((List SBinding))) :=
 .view 2002 (s55 (SRouter.mk p0)) [] fun r120 =>
 .br 0 (!r120)
 (.done (.inl 130))
 (.cnd 4 [26]
  (.br 4006 (decide (p1 < p0.fNow))
   (.done true)
   (.done (decide ((1099511627776 : Int) < p1))))
  (fun (c121 : Bool) => [.bool c121]) fun c121 =>
  .br 0 c121
  (.done (.inl 2))
  (.bind2 1
   (.lp (fun (l125 : Int) => Ext.of .normal [(1, .int .i64 p1), (3, .ptr 3 0 0), (6, .nilp), (7, .int .i64 0), (8, .ptr 15 0 0), (27, .ref 1000000 0 p2.length), (28, .int .i64 (p2.length : Int)), (29, .int .i64 l125)] [(3, ⟨9, true, [[.int .i64 p0.fMapping, .int .i64 p0.fFilter, .int .i64 p0.fTimeout, .bool p0.fHairpin, .str p0.fHost, .int .i64 p0.fLow, .int .i64 p0.fHigh, .int .i64 p0.fNow, .sl false 7 (List.map tySBinding.c p0.fTable)]]⟩), (15, ⟨9, true, [[.int .i64 p0.fMapping, .int .i64 p0.fFilter, .int .i64 p0.fTimeout, .bool p0.fHairpin, .str p0.fHost, .int .i64 p0.fLow, .int .i64 p0.fHigh, .int .i64 p0.fNow, .sl false 7 (List.map tySBinding.c p0.fTable)]]⟩)] [BT.of 1000000 tySAddr 2 p2 true] (by rfl))
    (fun l125 =>
     .br 0 (decide (l125 < (p2.length : Int)))
     (.chk 8001 (decide (0 ≤ l125) && decide (l125 < (p2.length : Int))) (.row 8002 tySAddr p2 (0 + l125.toNat) true fun x126 =>
      .view 9003 (s84 (SRouter.mk p0) x126) [] fun r127 =>
      .br 0 (!r127)
      (.done (.inr (.inl ())))
      (.done (.inl (wi64 (l125 + 1))))))
     (.done (.inr (.inr ()))))
    0)
   (fun (e128 : Unit) => Ext.lit .ret [(1, .int .i64 p1), (3, .ptr 3 0 0), (6, .nilp), (7, .int .i64 2), (8, .ptr 15 0 0)] [(3, ⟨9, true, [[.int .i64 p0.fMapping, .int .i64 p0.fFilter, .int .i64 p0.fTimeout, .bool p0.fHairpin, .str p0.fHost, .int .i64 p0.fLow, .int .i64 p0.fHigh, .int .i64 p0.fNow, .sl false 7 (List.map tySBinding.c p0.fTable)]]⟩), (15, ⟨9, true, [[.int .i64 p0.fMapping, .int .i64 p0.fFilter, .int .i64 p0.fTimeout, .bool p0.fHairpin, .str p0.fHost, .int .i64 p0.fLow, .int .i64 p0.fHigh, .int .i64 p0.fNow, .sl false 7 (List.map tySBinding.c p0.fTable)]]⟩)])
   (fun (e129 : Unit) => Ext.lit (.exit 0) [(1, .int .i64 p1), (3, .ptr 3 0 0), (6, .nilp), (7, .int .i64 0), (8, .ptr 15 0 0)] [(3, ⟨9, true, [[.int .i64 p0.fMapping, .int .i64 p0.fFilter, .int .i64 p0.fTimeout, .bool p0.fHairpin, .str p0.fHost, .int .i64 p0.fLow, .int .i64 p0.fHigh, .int .i64 p0.fNow, .sl false 7 (List.map tySBinding.c p0.fTable)]]⟩), (15, ⟨9, true, [[.int .i64 p0.fMapping, .int .i64 p0.fFilter, .int .i64 p0.fTimeout, .bool p0.fHairpin, .str p0.fHost, .int .i64 p0.fLow, .int .i64 p0.fHigh, .int .i64 p0.fNow, .sl false 7 (List.map tySBinding.c p0.fTable)]]⟩)])
   (fun e128 =>
    .done (.inl 2))
   (fun e129 =>
    .gh 1 (.virtC 600074 15 8 7) (.bind 0
    (.lp (fun (l133 : (List SBinding) × Int) => Ext.of .normal [(1, .int .i64 p1), (6, .nilp), (7, .int .i64 0), (8, .ptr 15 0 0), (48, .sl false 7 (List.map tySBinding.c p0.fTable)), (49, .int .i64 (mlen tySBinding p0.fTable)), (50, .int .i64 l133.2)] [(15, ⟨9, true, [[.int .i64 p0.fMapping, .int .i64 p0.fFilter, .int .i64 p0.fTimeout, .bool p0.fHairpin, .str p0.fHost, .int .i64 p0.fLow, .int .i64 p0.fHigh, .int .i64 p1, .ref 600074 0 l133.1.length]]⟩)] [BT.of 600074 tySBindingO6 7 l133.1 true] (by rfl))
     (fun l133 =>
      .br 0 (decide (l133.2 < (mlen tySBinding p0.fTable)))
      (.row 15001 tySBinding p0.fTable l133.2.toNat (decide (0 ≤ l133.2)) fun x134 =>
       .br 0 (decide (p1 < x134.fUntil))
       (.call 17003 (s64 x134.fOpen) [] [(7, 500078)] fun r135 =>
        .appn 18009 tySBindingO6 l133.1 x134 6 500078 tySAddr x134.fOpen 88 (.gh 0 (.drop [600074]) (.gh 0 (.ren 70 600074) (.done (.inl ((l133.1 ++ [x134]), (wi64 (l133.2 + 1))))))))
       (.done (.inl (l133.1, (wi64 (l133.2 + 1))))))
      (.done (.inr l133.1)))
     ([], 0))
    (fun (e136 : (List SBinding)) => Ext.of (.exit 2) [(6, .nilp), (7, .int .i64 0), (8, .ptr 15 0 0)] [(15, ⟨9, true, [[.int .i64 p0.fMapping, .int .i64 p0.fFilter, .int .i64 p0.fTimeout, .bool p0.fHairpin, .str p0.fHost, .int .i64 p0.fLow, .int .i64 p0.fHigh, .int .i64 p1, .ref 600074 0 e136.length]]⟩)] [BT.of 600074 tySBindingO6 7 e136 true] (by rfl))
    (fun e136 =>
     .done (.inr e136))))))
theorem k56_1 (p0 : SNat) (p1 : Int) (p2 : (List SAddr)) : FnB Tryd.prog GG [0, 1, 2, 3, 6, 7, 8, 10, 12, 18, 26, 27, 28, 29, 30, 36, 48, 49, 50, 51, 57] Tryd.f56 [.agg [.int .i64 p0.fMapping, .int .i64 p0.fFilter, .int .i64 p0.fTimeout, .bool p0.fHairpin, .str p0.fHost, .int .i64 p0.fLow, .int .i64 p0.fHigh, .int .i64 p0.fNow, .sl false 7 (List.map tySBinding.c p0.fTable)], .int .i64 p1, .ref 1000000 0 p2.length] (Ext.of .normal (argTs [.agg [.int .i64 p0.fMapping, .int .i64 p0.fFilter, .int .i64 p0.fTimeout, .bool p0.fHairpin, .str p0.fHost, .int .i64 p0.fLow, .int .i64 p0.fHigh, .int .i64 p0.fNow, .sl false 7 (List.map tySBinding.c p0.fTable)], .int .i64 p1, .ref 1000000 0 p2.length]) [] [BT.of 1000000 tySAddr 2 p2 true] (by rfl)) (g56_1 p0 p1 p2) (Sum.elim (fun (r : Int) => .tup [.nilp, .int .i64 r]) (fun (_ : (List SBinding)) => .tup [.ptr 15 0 0, .int .i64 0])) (Sum.elim (fun (_ : Int) => Ext.of .normal [] [] [] (by rfl)) (fun (r : (List SBinding)) => Ext.of .normal [] [(15, ⟨9, true, [[.int .i64 p0.fMapping, .int .i64 p0.fFilter, .int .i64 p0.fTimeout, .bool p0.fHairpin, .str p0.fHost, .int .i64 p0.fLow, .int .i64 p0.fHigh, .int .i64 p1, .ref 600074 0 r.length]]⟩)] [BT.of 600074 tySBindingO6 7 r true] (by rfl))) := by unfold FnB; kernel_rfl
noncomputable def s56_1 (p0 : SNat) (p1 : Int) (p2 : (List SAddr)) : EV.Spec Tryd.prog GG ((Int) ⊕ ((List SBinding))) := .ofFnB 56 [600074] mixed Tryd.func56 rfl (fun r => by cases r <;> rfl) (k56_1 p0 p1 p2)
noncomputable def g58 (_ : SAddr) (_ : SAddr) : TT (SAddr × Int) :=
 .fail
theorem k58 (p0 : SAddr) (p1 : SAddr) : FnD Tryd.prog GG [0, 1, 2, 4, 5, 6, 7, 8, 9, 10, 11, 12, 13, 27, 36, 103] Tryd.f58 [.nilp, .agg [.str p0.fHost, .int .i64 p0.fPort], .agg [.str p1.fHost, .int .i64 p1.fPort]] (g58 p0 p1) (fun r => .tup [.agg [.str r.1.fHost, .int .i64 r.1.fPort], .int .i64 r.2]) := by unfold FnD; kernel_rfl
noncomputable def s58 (p0 : SAddr) (p1 : SAddr) : EV.Spec Tryd.prog GG (SAddr × Int) := .ofFn 58 mixed Tryd.func58 (k58 p0 p1)
noncomputable def g146 (_ : SAddr) : TT (SAddr) :=
 .done (SAddr.mk ByteArray.empty 0)
theorem k146 (p0 : SAddr) : FnD Tryd.prog GG [0, 2] Tryd.f146 [.agg [.str p0.fHost, .int .i64 p0.fPort]] (g146 p0) (fun r => .agg [.str r.fHost, .int .i64 r.fPort]) := by unfold FnD; kernel_rfl
noncomputable def s146 (p0 : SAddr) : EV.Spec Tryd.prog GG (SAddr) := .ofFn 146 mixed Tryd.func146 (k146 p0)
noncomputable def g86 (p0 : SBinding) (p1 : SAddr) (p2 : SAddr) : TT (Bool) :=
 .cnd 1 [4]
 (.br 1006 ((decide (p0.fInside.fHost = p1.fHost)) && ((p0.fInside.fPort == p1.fPort) && true))
  (.done ((decide (p0.fPeer.fHost = p2.fHost)) && ((p0.fPeer.fPort == p2.fPort) && true)))
  (.done false))
 (fun (c146 : Bool) => [.bool c146]) fun c146 =>
 .done c146
theorem k86 (p0 : SBinding) (p1 : SAddr) (p2 : SAddr) : FnD Tryd.prog GG [0, 1, 2, 3, 4] Tryd.f86 [.agg [.str p0.fInside.fHost, .int .i64 p0.fInside.fPort, .str p0.fPeer.fHost, .int .i64 p0.fPeer.fPort, .int .i64 p0.fPort, .int .i64 p0.fUntil, .sl false 2 (List.map tySAddr.c p0.fOpen)], .snap [.str p1.fHost, .int .i64 p1.fPort], .snap [.str p2.fHost, .int .i64 p2.fPort]] (g86 p0 p1 p2) (fun r => .bool r) := by unfold FnD; kernel_rfl
noncomputable def s86 (p0 : SBinding) (p1 : SAddr) (p2 : SAddr) : EV.Spec Tryd.prog GG (Bool) := .ofFn 86 mixed Tryd.func86 (k86 p0 p1 p2)
noncomputable def g115_1 (p0 : (List SBinding)) (p1 : SAddr) (p2 : SAddr) : TT (Int) :=
 .bind2 1
 (.lp (fun (l147 : Int) => Ext.lit .normal [(0, .sl false 7 (List.map tySBinding.c p0)), (1, .fn 86 [] [.snap [.str p1.fHost, .int .i64 p1.fPort], .snap [.str p2.fHost, .int .i64 p2.fPort]]), (4, .int .i64 0), (7, .int .i64 (mlen tySBinding p0)), (8, .int .i64 l147)] [])
  (fun l147 =>
   .br 0 (decide (l147 < (mlen tySBinding p0)))
   (.row 4004 tySBinding p0 l147.toNat (decide (0 ≤ l147)) fun x148 =>
    .call 4006 (s86 x148 p1 p2) [] [] fun r149 =>
    .br 0 r149
    (.done (.inr (.inl l147)))
    (.done (.inl (wi64 (l147 + 1)))))
   (.done (.inr (.inr ()))))
  0)
 (fun (e150 : Int) => Ext.lit .ret [(4, .int .i64 e150)] [])
 (fun (_ : Unit) => Ext.lit (.exit 0) [(4, .int .i64 0)] [])
 (fun e150 =>
  .done e150)
 (fun _ =>
  .done (-1))
theorem k115_1 (p0 : (List SBinding)) (p1 : SAddr) (p2 : SAddr) : FnD Tryd.prog GG [0, 1, 4, 5, 7, 8, 9, 16] Tryd.f115 [.sl false 7 (List.map tySBinding.c p0), .fn 86 [] [.snap [.str p1.fHost, .int .i64 p1.fPort], .snap [.str p2.fHost, .int .i64 p2.fPort]]] (g115_1 p0 p1 p2) (fun r => .int .i64 r) := by unfold FnD; kernel_rfl
noncomputable def s115_1 (p0 : (List SBinding)) (p1 : SAddr) (p2 : SAddr) : EV.Spec Tryd.prog GG (Int) := .ofFn 115 mixed Tryd.func115 (k115_1 p0 p1 p2)
noncomputable def g85 (p0 : SRouter) (p1 : SAddr) (p2 : SAddr) : TT (Int) :=
 .call 1007 (s115_1 p0.fNat.fTable p1 p2) [] [] fun r152 =>
 .done r152
theorem k85 (p0 : SRouter) (p1 : SAddr) (p2 : SAddr) : FnD Tryd.prog GG [0, 1, 4] Tryd.f85 [.snap [.int .i64 p0.fNat.fMapping, .int .i64 p0.fNat.fFilter, .int .i64 p0.fNat.fTimeout, .bool p0.fNat.fHairpin, .str p0.fNat.fHost, .int .i64 p0.fNat.fLow, .int .i64 p0.fNat.fHigh, .int .i64 p0.fNat.fNow, .sl false 7 (List.map tySBinding.c p0.fNat.fTable)], .fn 86 [] [.snap [.str p1.fHost, .int .i64 p1.fPort], .snap [.str p2.fHost, .int .i64 p2.fPort]]] (g85 p0 p1 p2) (fun r => .int .i64 r) := by unfold FnD; kernel_rfl
noncomputable def s85 (p0 : SRouter) (p1 : SAddr) (p2 : SAddr) : EV.Spec Tryd.prog GG (Int) := .ofFn 85 mixed Tryd.func85 (k85 p0 p1 p2)
noncomputable def g117 (p0 : (List SAddr)) (p1 : SAddr) : TT (Int) :=
 .bind2 1
 (.lp (fun (l165 : Int) => Ext.lit .normal [(0, .sl false 2 (List.map tySAddr.c p0)), (3, .ptr 3 0 0), (4, .int .i64 0), (7, .int .i64 (mlen tySAddr p0)), (8, .int .i64 l165)] [(3, ⟨2, true, [[.str p1.fHost, .int .i64 p1.fPort]]⟩)])
  (fun l165 =>
   .br 0 (decide (l165 < (mlen tySAddr p0)))
   (.row 4004 tySAddr p0 l165.toNat (decide (0 ≤ l165)) fun x166 =>
    .br 0 ((decide (p1.fHost = x166.fHost)) && ((p1.fPort == x166.fPort) && true))
    (.done (.inr (.inl l165)))
    (.done (.inl (wi64 (l165 + 1)))))
   (.done (.inr (.inr ()))))
  0)
 (fun (e167 : Int) => Ext.lit .ret [(4, .int .i64 e167)] [])
 (fun (_ : Unit) => Ext.lit (.exit 0) [(4, .int .i64 0)] [])
 (fun e167 =>
  .done e167)
 (fun _ =>
  .done (-1))
theorem k117 (p0 : (List SAddr)) (p1 : SAddr) : FnD Tryd.prog GG [0, 1, 3, 4, 5, 7, 8, 9, 16] Tryd.f117 [.sl false 2 (List.map tySAddr.c p0), .agg [.str p1.fHost, .int .i64 p1.fPort]] (g117 p0 p1) (fun r => .int .i64 r) := by unfold FnD; kernel_rfl
noncomputable def s117 (p0 : (List SAddr)) (p1 : SAddr) : EV.Spec Tryd.prog GG (Int) := .ofFn 117 mixed Tryd.func117 (k117 p0 p1)
noncomputable def g88 (p0 : (List SAddr)) (p1 : SAddr) : TT (Bool) :=
 .call 1003 (s117 p0 p1) [] [] fun r169 =>
 .done (decide ((0 : Int) ≤ r169))
theorem k88 (p0 : (List SAddr)) (p1 : SAddr) : FnD Tryd.prog GG [0, 1, 3, 4] Tryd.f88 [.sl false 2 (List.map tySAddr.c p0), .agg [.str p1.fHost, .int .i64 p1.fPort]] (g88 p0 p1) (fun r => .bool r) := by unfold FnD; kernel_rfl
noncomputable def s88 (p0 : (List SAddr)) (p1 : SAddr) : EV.Spec Tryd.prog GG (Bool) := .ofFn 88 mixed Tryd.func88 (k88 p0 p1)
noncomputable def g147 (p0 : SAddr) : TT (SAddr) :=
 .done (SAddr.mk p0.fHost 0)
theorem k147 (p0 : SAddr) : FnD Tryd.prog GG [0, 1, 2] Tryd.f147 [.agg [.str p0.fHost, .int .i64 p0.fPort]] (g147 p0) (fun r => .agg [.str r.fHost, .int .i64 r.fPort]) := by unfold FnD; kernel_rfl
noncomputable def s147 (p0 : SAddr) : EV.Spec Tryd.prog GG (SAddr) := .ofFn 147 mixed Tryd.func147 (k147 p0)
noncomputable def g148 (p0 : SAddr) : TT (SAddr) :=
 .done p0
theorem k148 (p0 : SAddr) : FnD Tryd.prog GG [0, 1, 2] Tryd.f148 [.agg [.str p0.fHost, .int .i64 p0.fPort]] (g148 p0) (fun r => .agg [.str r.fHost, .int .i64 r.fPort]) := by unfold FnD; kernel_rfl
noncomputable def s148 (p0 : SAddr) : EV.Spec Tryd.prog GG (SAddr) := .ofFn 148 mixed Tryd.func148 (k148 p0)
noncomputable def g58_1 (p0 : SAddr) (p1 : SAddr) (p2 : Int) (p3 : Int) (p4 : Int) (p5 : Bool) (p6 : ByteArray) (p7 : Int) (p8 : Int) (p9 : Int) (p10 : (List SBinding)) : TT ((List SBinding) × Int × ByteArray × Int) :=
 .ceq 1006 p2 [0, 1, 2, 3] (fun v => bif v == 0 then .fail else bif v == 1 then .call 1009 (s146 p1) [] [] fun r187 =>
  .view 2003 (s85 (SRouter.mk (SNat.mk p2 p3 p4 p5 p6 p7 p8 p9 p10)) p0 r187) [(VwW.of 1000001 tySBindingO6 p10)] fun r188 =>
  .bind2 0
  (.br 0 (decide (r188 < 0))
   (.view 4004 (s87 (SRouter.mk (SNat.mk p2 p3 p4 p5 p6 p7 p8 p9 p10)) p0.fPort) [(VwW.of 1000001 tySBindingO6 p10)] fun r189 =>
    .br 0 (!r189.isSome)
    (.done (.inl ()))
    (.app 8012 tySBindingO6 p10 [(SBinding.mk p0 r187 (r189.getD 0) 0 [])] 88 false (by intro h; cases h) (.gh 0 (.ren 55 600083) (.done (.inr ((p10 ++ [(SBinding.mk p0 r187 (r189.getD 0) 0 [])]), (p10.length : Int)))))))
   (.gh 0 (.ren 1000001 600083) (.done (.inr (p10, r188)))))
  (fun (e190 : Unit) => Ext.of .ret [(0, .ptr 1000000 0 0), (5, .ptr 5 0 0), (6, .ptr 6 0 0), (7, .int .i64 4), (9, .int .i64 r188)] [(5, ⟨2, true, [[.str p1.fHost, .int .i64 p1.fPort]]⟩), (6, ⟨2, true, [[.str ByteArray.empty, .int .i64 0]]⟩), (1000000, ⟨9, true, [[.int .i64 p2, .int .i64 p3, .int .i64 p4, .bool p5, .str p6, .int .i64 p7, .int .i64 p8, .int .i64 p9, .ref 1000001 0 p10.length]]⟩)] [BT.of 1000001 tySBindingO6 7 p10 true] (by rfl))
  (fun (e191 : (List SBinding) × Int) => Ext.of .normal [(0, .ptr 1000000 0 0), (5, .ptr 5 0 0), (6, .ptr 6 0 0), (7, .int .i64 0), (9, .int .i64 e191.2)] [(5, ⟨2, true, [[.str p1.fHost, .int .i64 p1.fPort]]⟩), (6, ⟨2, true, [[.str ByteArray.empty, .int .i64 0]]⟩), (1000000, ⟨9, true, [[.int .i64 p2, .int .i64 p3, .int .i64 p4, .bool p5, .str p6, .int .i64 p7, .int .i64 p8, .int .i64 p9, .ref 600083 0 e191.1.length]]⟩)] [BT.of 600083 tySBindingO6 7 e191.1 true] (by rfl))
  (fun e190 =>
   .gh 0 (.ren 1000001 660000) (.done (p10, 4, ByteArray.empty, 0)))
  (fun e191 =>
   .chk 9007 (decide (0 ≤ e191.2) && decide (e191.2 < (e191.1.length : Int))) (.row 10015 tySBindingO6 e191.1 (0 + e191.2.toNat) true fun x192 =>
   .re 10015 (ReW.put 600083 7 tySBindingO6 e191.1 (0 + e191.2.toNat) (SBinding.mk x192.fInside x192.fPeer x192.fPort (wi64 (p9 + p4)) x192.fOpen)) (.gh 13 (.len 600083 ((e191.1.set (0 + e191.2.toNat) (SBinding.mk x192.fInside x192.fPeer x192.fPort (wi64 (p9 + p4)) x192.fOpen)).length) [e191.1.length] (by simp)) (.ceq 11006 p3 [0, 1, 2, 3] (fun v => bif v == 0 then .fail else bif v == 1 then .call 11009 (s146 p1) [] [] fun r193 =>
    .cnd 12 [103]
    (.br 12008 (p3 != 1)
     (.row 12011 tySBindingO6 (e191.1.set (0 + e191.2.toNat) (SBinding.mk x192.fInside x192.fPeer x192.fPort (wi64 (p9 + p4)) x192.fOpen)) (0 + e191.2.toNat) true fun x194 =>
      .call 12013 (s88 x194.fOpen r193) [] [] fun r195 =>
      .done (!r195))
     (.done false))
    (fun (c196 : Bool) => [.bool c196]) fun c196 =>
    .bind 0
    (.br 0 c196
     (.rowt 13005 tySBindingO6 (e191.1.set (0 + e191.2.toNat) (SBinding.mk x192.fInside x192.fPeer x192.fPort (wi64 (p9 + p4)) x192.fOpen)) (0 + e191.2.toNat) 6 fun x197 =>
      .re 13005 (ReW.take 600083 7 true tySBindingO6 (e191.1.set (0 + e191.2.toNat) (SBinding.mk x192.fInside x192.fPeer x192.fPort (wi64 (p9 + p4)) x192.fOpen)) (0 + e191.2.toNat) [.str x197.fInside.fHost, .int .i64 x197.fInside.fPort, .str x197.fPeer.fHost, .int .i64 x197.fPeer.fPort, .int .i64 x197.fPort, .int .i64 x197.fUntil, .sl false 2 (List.map tySAddr.c x197.fOpen)] rfl 108 2 tySAddr x197.fOpen (fun _ => rfl) (fun n => .ref 108 0 n)) (.app 13008 tySAddr x197.fOpen [r193] 24 false (by intro h; cases h) (.nst 13011 tySBindingO6 (e191.1.set (0 + e191.2.toNat) (SBinding.mk x192.fInside x192.fPeer x192.fPort (wi64 (p9 + p4)) x192.fOpen)) [.str x197.fInside.fHost, .int .i64 x197.fInside.fPort, .str x197.fPeer.fHost, .int .i64 x197.fPeer.fPort, .int .i64 x197.fPort, .int .i64 x197.fUntil, .sl false 2 (List.map tySAddr.c x197.fOpen)] (0 + e191.2.toNat) 6 (SBinding.mk x197.fInside x197.fPeer x197.fPort x197.fUntil (x197.fOpen ++ [r193])) tySAddr (x197.fOpen ++ [r193]) none (.gh 16 (.len 600083 (((e191.1.set (0 + e191.2.toNat) (SBinding.mk x192.fInside x192.fPeer x192.fPort (wi64 (p9 + p4)) x192.fOpen)).set (0 + e191.2.toNat) (SBinding.mk x197.fInside x197.fPeer x197.fPort x197.fUntil (x197.fOpen ++ [r193]))).length) [(e191.1.set (0 + e191.2.toNat) (SBinding.mk x192.fInside x192.fPeer x192.fPort (wi64 (p9 + p4)) x192.fOpen)).length] (by simp)) (.rowg 16 600083 500084 tySBindingO6 ((e191.1.set (0 + e191.2.toNat) (SBinding.mk x192.fInside x192.fPeer x192.fPort (wi64 (p9 + p4)) x192.fOpen)).set (0 + e191.2.toNat) (SBinding.mk x197.fInside x197.fPeer x197.fPort x197.fUntil (x197.fOpen ++ [r193]))) (0 + e191.2.toNat) 6 2 tySAddr (fun x198 => x198.fOpen) (fun _ => rfl) (fun _ => rfl) fun x198 =>
      .hrow 14005 tySBindingO6 ((e191.1.set (0 + e191.2.toNat) (SBinding.mk x192.fInside x192.fPeer x192.fPort (wi64 (p9 + p4)) x192.fOpen)).set (0 + e191.2.toNat) (SBinding.mk x197.fInside x197.fPeer x197.fPort x197.fUntil (x197.fOpen ++ [r193]))) [.str x198.fInside.fHost, .int .i64 x198.fInside.fPort, .str x198.fPeer.fHost, .int .i64 x198.fPeer.fPort, .int .i64 x198.fPort, .int .i64 x198.fUntil, .ref 500084 0 x198.fOpen.length] (0 + e191.2.toNat) (.hrow 14009 tySBindingO6 ((e191.1.set (0 + e191.2.toNat) (SBinding.mk x192.fInside x192.fPeer x192.fPort (wi64 (p9 + p4)) x192.fOpen)).set (0 + e191.2.toNat) (SBinding.mk x197.fInside x197.fPeer x197.fPort x197.fUntil (x197.fOpen ++ [r193]))) [.str x198.fInside.fHost, .int .i64 x198.fInside.fPort, .str x198.fPeer.fHost, .int .i64 x198.fPeer.fPort, .int .i64 x198.fPort, .int .i64 x198.fUntil, .ref 500084 0 x198.fOpen.length] (0 + e191.2.toNat) (.chk 14013 (decide (0 ≤ (if (wi64 ((x198.fOpen.length : Int) - 16)) > (0 : Int) then (wi64 ((x198.fOpen.length : Int) - 16)) else (0 : Int))) && decide ((if (wi64 ((x198.fOpen.length : Int) - 16)) > (0 : Int) then (wi64 ((x198.fOpen.length : Int) - 16)) else (0 : Int)) ≤ (x198.fOpen.length : Int))) (.nst 14016 tySBindingO6 ((e191.1.set (0 + e191.2.toNat) (SBinding.mk x192.fInside x192.fPeer x192.fPort (wi64 (p9 + p4)) x192.fOpen)).set (0 + e191.2.toNat) (SBinding.mk x197.fInside x197.fPeer x197.fPort x197.fUntil (x197.fOpen ++ [r193]))) [.str x198.fInside.fHost, .int .i64 x198.fInside.fPort, .str x198.fPeer.fHost, .int .i64 x198.fPeer.fPort, .int .i64 x198.fPort, .int .i64 x198.fUntil, .ref 500084 0 x198.fOpen.length] (0 + e191.2.toNat) 6 (SBinding.mk x198.fInside x198.fPeer x198.fPort x198.fUntil (x198.fOpen.drop ((if (wi64 ((x198.fOpen.length : Int) - 16)) > (0 : Int) then (wi64 ((x198.fOpen.length : Int) - 16)) else (0 : Int)).toNat))) tySAddr x198.fOpen (some ((if (wi64 ((x198.fOpen.length : Int) - 16)) > (0 : Int) then (wi64 ((x198.fOpen.length : Int) - 16)) else (0 : Int)).toNat)) (.gh 0 (.len 600083 ((((e191.1.set (0 + e191.2.toNat) (SBinding.mk x192.fInside x192.fPeer x192.fPort (wi64 (p9 + p4)) x192.fOpen)).set (0 + e191.2.toNat) (SBinding.mk x197.fInside x197.fPeer x197.fPort x197.fUntil (x197.fOpen ++ [r193]))).set (0 + e191.2.toNat) (SBinding.mk x198.fInside x198.fPeer x198.fPort x198.fUntil (x198.fOpen.drop ((if (wi64 ((x198.fOpen.length : Int) - 16)) > (0 : Int) then (wi64 ((x198.fOpen.length : Int) - 16)) else (0 : Int)).toNat)))).length) [((e191.1.set (0 + e191.2.toNat) (SBinding.mk x192.fInside x192.fPeer x192.fPort (wi64 (p9 + p4)) x192.fOpen)).set (0 + e191.2.toNat) (SBinding.mk x197.fInside x197.fPeer x197.fPort x197.fUntil (x197.fOpen ++ [r193]))).length] (by simp)) (.done (((e191.1.set (0 + e191.2.toNat) (SBinding.mk x192.fInside x192.fPeer x192.fPort (wi64 (p9 + p4)) x192.fOpen)).set (0 + e191.2.toNat) (SBinding.mk x197.fInside x197.fPeer x197.fPort x197.fUntil (x197.fOpen ++ [r193]))).set (0 + e191.2.toNat) (SBinding.mk x198.fInside x198.fPeer x198.fPort x198.fUntil (x198.fOpen.drop ((if (wi64 ((x198.fOpen.length : Int) - 16)) > (0 : Int) then (wi64 ((x198.fOpen.length : Int) - 16)) else (0 : Int)).toNat))))))))))))))
     (.done (e191.1.set (0 + e191.2.toNat) (SBinding.mk x192.fInside x192.fPeer x192.fPort (wi64 (p9 + p4)) x192.fOpen))))
    (fun (e199 : (List SBinding)) => Ext.of .normal [(0, .ptr 1000000 0 0), (6, .ptr 6 0 0), (7, .int .i64 0), (12, .ptr 600083 (0 + e191.2.toNat) 0)] [(6, ⟨2, true, [[.str ByteArray.empty, .int .i64 0]]⟩), (1000000, ⟨9, true, [[.int .i64 p2, .int .i64 p3, .int .i64 p4, .bool p5, .str p6, .int .i64 p7, .int .i64 p8, .int .i64 p9, .ref 600083 0 e199.length]]⟩)] [BT.of 600083 tySBindingO6 7 e199 true] (by rfl))
    (fun e199 =>
     .row 15009 tySBindingO6 e199 (0 + e191.2.toNat) true fun x200 =>
     .gh 0 (.ren 600083 660000) (.done (e199, 0, p6, x200.fPort))) else bif v == 2 then .call 11009 (s147 p1) [] [] fun r201 =>
    .cnd 12 [103]
    (.br 12008 (p3 != 1)
     (.row 12011 tySBindingO6 (e191.1.set (0 + e191.2.toNat) (SBinding.mk x192.fInside x192.fPeer x192.fPort (wi64 (p9 + p4)) x192.fOpen)) (0 + e191.2.toNat) true fun x202 =>
      .call 12013 (s88 x202.fOpen r201) [] [] fun r203 =>
      .done (!r203))
     (.done false))
    (fun (c204 : Bool) => [.bool c204]) fun c204 =>
    .bind 0
    (.br 0 c204
     (.rowt 13005 tySBindingO6 (e191.1.set (0 + e191.2.toNat) (SBinding.mk x192.fInside x192.fPeer x192.fPort (wi64 (p9 + p4)) x192.fOpen)) (0 + e191.2.toNat) 6 fun x205 =>
      .re 13005 (ReW.take 600083 7 true tySBindingO6 (e191.1.set (0 + e191.2.toNat) (SBinding.mk x192.fInside x192.fPeer x192.fPort (wi64 (p9 + p4)) x192.fOpen)) (0 + e191.2.toNat) [.str x205.fInside.fHost, .int .i64 x205.fInside.fPort, .str x205.fPeer.fHost, .int .i64 x205.fPeer.fPort, .int .i64 x205.fPort, .int .i64 x205.fUntil, .sl false 2 (List.map tySAddr.c x205.fOpen)] rfl 108 2 tySAddr x205.fOpen (fun _ => rfl) (fun n => .ref 108 0 n)) (.app 13008 tySAddr x205.fOpen [r201] 24 false (by intro h; cases h) (.nst 13011 tySBindingO6 (e191.1.set (0 + e191.2.toNat) (SBinding.mk x192.fInside x192.fPeer x192.fPort (wi64 (p9 + p4)) x192.fOpen)) [.str x205.fInside.fHost, .int .i64 x205.fInside.fPort, .str x205.fPeer.fHost, .int .i64 x205.fPeer.fPort, .int .i64 x205.fPort, .int .i64 x205.fUntil, .sl false 2 (List.map tySAddr.c x205.fOpen)] (0 + e191.2.toNat) 6 (SBinding.mk x205.fInside x205.fPeer x205.fPort x205.fUntil (x205.fOpen ++ [r201])) tySAddr (x205.fOpen ++ [r201]) none (.gh 16 (.len 600083 (((e191.1.set (0 + e191.2.toNat) (SBinding.mk x192.fInside x192.fPeer x192.fPort (wi64 (p9 + p4)) x192.fOpen)).set (0 + e191.2.toNat) (SBinding.mk x205.fInside x205.fPeer x205.fPort x205.fUntil (x205.fOpen ++ [r201]))).length) [(e191.1.set (0 + e191.2.toNat) (SBinding.mk x192.fInside x192.fPeer x192.fPort (wi64 (p9 + p4)) x192.fOpen)).length] (by simp)) (.rowg 16 600083 500085 tySBindingO6 ((e191.1.set (0 + e191.2.toNat) (SBinding.mk x192.fInside x192.fPeer x192.fPort (wi64 (p9 + p4)) x192.fOpen)).set (0 + e191.2.toNat) (SBinding.mk x205.fInside x205.fPeer x205.fPort x205.fUntil (x205.fOpen ++ [r201]))) (0 + e191.2.toNat) 6 2 tySAddr (fun x206 => x206.fOpen) (fun _ => rfl) (fun _ => rfl) fun x206 =>
      .hrow 14005 tySBindingO6 ((e191.1.set (0 + e191.2.toNat) (SBinding.mk x192.fInside x192.fPeer x192.fPort (wi64 (p9 + p4)) x192.fOpen)).set (0 + e191.2.toNat) (SBinding.mk x205.fInside x205.fPeer x205.fPort x205.fUntil (x205.fOpen ++ [r201]))) [.str x206.fInside.fHost, .int .i64 x206.fInside.fPort, .str x206.fPeer.fHost, .int .i64 x206.fPeer.fPort, .int .i64 x206.fPort, .int .i64 x206.fUntil, .ref 500085 0 x206.fOpen.length] (0 + e191.2.toNat) (.hrow 14009 tySBindingO6 ((e191.1.set (0 + e191.2.toNat) (SBinding.mk x192.fInside x192.fPeer x192.fPort (wi64 (p9 + p4)) x192.fOpen)).set (0 + e191.2.toNat) (SBinding.mk x205.fInside x205.fPeer x205.fPort x205.fUntil (x205.fOpen ++ [r201]))) [.str x206.fInside.fHost, .int .i64 x206.fInside.fPort, .str x206.fPeer.fHost, .int .i64 x206.fPeer.fPort, .int .i64 x206.fPort, .int .i64 x206.fUntil, .ref 500085 0 x206.fOpen.length] (0 + e191.2.toNat) (.chk 14013 (decide (0 ≤ (if (wi64 ((x206.fOpen.length : Int) - 16)) > (0 : Int) then (wi64 ((x206.fOpen.length : Int) - 16)) else (0 : Int))) && decide ((if (wi64 ((x206.fOpen.length : Int) - 16)) > (0 : Int) then (wi64 ((x206.fOpen.length : Int) - 16)) else (0 : Int)) ≤ (x206.fOpen.length : Int))) (.nst 14016 tySBindingO6 ((e191.1.set (0 + e191.2.toNat) (SBinding.mk x192.fInside x192.fPeer x192.fPort (wi64 (p9 + p4)) x192.fOpen)).set (0 + e191.2.toNat) (SBinding.mk x205.fInside x205.fPeer x205.fPort x205.fUntil (x205.fOpen ++ [r201]))) [.str x206.fInside.fHost, .int .i64 x206.fInside.fPort, .str x206.fPeer.fHost, .int .i64 x206.fPeer.fPort, .int .i64 x206.fPort, .int .i64 x206.fUntil, .ref 500085 0 x206.fOpen.length] (0 + e191.2.toNat) 6 (SBinding.mk x206.fInside x206.fPeer x206.fPort x206.fUntil (x206.fOpen.drop ((if (wi64 ((x206.fOpen.length : Int) - 16)) > (0 : Int) then (wi64 ((x206.fOpen.length : Int) - 16)) else (0 : Int)).toNat))) tySAddr x206.fOpen (some ((if (wi64 ((x206.fOpen.length : Int) - 16)) > (0 : Int) then (wi64 ((x206.fOpen.length : Int) - 16)) else (0 : Int)).toNat)) (.gh 0 (.len 600083 ((((e191.1.set (0 + e191.2.toNat) (SBinding.mk x192.fInside x192.fPeer x192.fPort (wi64 (p9 + p4)) x192.fOpen)).set (0 + e191.2.toNat) (SBinding.mk x205.fInside x205.fPeer x205.fPort x205.fUntil (x205.fOpen ++ [r201]))).set (0 + e191.2.toNat) (SBinding.mk x206.fInside x206.fPeer x206.fPort x206.fUntil (x206.fOpen.drop ((if (wi64 ((x206.fOpen.length : Int) - 16)) > (0 : Int) then (wi64 ((x206.fOpen.length : Int) - 16)) else (0 : Int)).toNat)))).length) [((e191.1.set (0 + e191.2.toNat) (SBinding.mk x192.fInside x192.fPeer x192.fPort (wi64 (p9 + p4)) x192.fOpen)).set (0 + e191.2.toNat) (SBinding.mk x205.fInside x205.fPeer x205.fPort x205.fUntil (x205.fOpen ++ [r201]))).length] (by simp)) (.done (((e191.1.set (0 + e191.2.toNat) (SBinding.mk x192.fInside x192.fPeer x192.fPort (wi64 (p9 + p4)) x192.fOpen)).set (0 + e191.2.toNat) (SBinding.mk x205.fInside x205.fPeer x205.fPort x205.fUntil (x205.fOpen ++ [r201]))).set (0 + e191.2.toNat) (SBinding.mk x206.fInside x206.fPeer x206.fPort x206.fUntil (x206.fOpen.drop ((if (wi64 ((x206.fOpen.length : Int) - 16)) > (0 : Int) then (wi64 ((x206.fOpen.length : Int) - 16)) else (0 : Int)).toNat))))))))))))))
     (.done (e191.1.set (0 + e191.2.toNat) (SBinding.mk x192.fInside x192.fPeer x192.fPort (wi64 (p9 + p4)) x192.fOpen))))
    (fun (e207 : (List SBinding)) => Ext.of .normal [(0, .ptr 1000000 0 0), (6, .ptr 6 0 0), (7, .int .i64 0), (12, .ptr 600083 (0 + e191.2.toNat) 0)] [(6, ⟨2, true, [[.str ByteArray.empty, .int .i64 0]]⟩), (1000000, ⟨9, true, [[.int .i64 p2, .int .i64 p3, .int .i64 p4, .bool p5, .str p6, .int .i64 p7, .int .i64 p8, .int .i64 p9, .ref 600083 0 e207.length]]⟩)] [BT.of 600083 tySBindingO6 7 e207 true] (by rfl))
    (fun e207 =>
     .row 15009 tySBindingO6 e207 (0 + e191.2.toNat) true fun x208 =>
     .gh 0 (.ren 600083 660000) (.done (e207, 0, p6, x208.fPort))) else bif v == 3 then .call 11009 (s148 p1) [] [] fun r209 =>
    .cnd 12 [103]
    (.br 12008 (p3 != 1)
     (.row 12011 tySBindingO6 (e191.1.set (0 + e191.2.toNat) (SBinding.mk x192.fInside x192.fPeer x192.fPort (wi64 (p9 + p4)) x192.fOpen)) (0 + e191.2.toNat) true fun x210 =>
      .call 12013 (s88 x210.fOpen r209) [] [] fun r211 =>
      .done (!r211))
     (.done false))
    (fun (c212 : Bool) => [.bool c212]) fun c212 =>
    .bind 0
    (.br 0 c212
     (.rowt 13005 tySBindingO6 (e191.1.set (0 + e191.2.toNat) (SBinding.mk x192.fInside x192.fPeer x192.fPort (wi64 (p9 + p4)) x192.fOpen)) (0 + e191.2.toNat) 6 fun x213 =>
      .re 13005 (ReW.take 600083 7 true tySBindingO6 (e191.1.set (0 + e191.2.toNat) (SBinding.mk x192.fInside x192.fPeer x192.fPort (wi64 (p9 + p4)) x192.fOpen)) (0 + e191.2.toNat) [.str x213.fInside.fHost, .int .i64 x213.fInside.fPort, .str x213.fPeer.fHost, .int .i64 x213.fPeer.fPort, .int .i64 x213.fPort, .int .i64 x213.fUntil, .sl false 2 (List.map tySAddr.c x213.fOpen)] rfl 108 2 tySAddr x213.fOpen (fun _ => rfl) (fun n => .ref 108 0 n)) (.app 13008 tySAddr x213.fOpen [r209] 24 false (by intro h; cases h) (.nst 13011 tySBindingO6 (e191.1.set (0 + e191.2.toNat) (SBinding.mk x192.fInside x192.fPeer x192.fPort (wi64 (p9 + p4)) x192.fOpen)) [.str x213.fInside.fHost, .int .i64 x213.fInside.fPort, .str x213.fPeer.fHost, .int .i64 x213.fPeer.fPort, .int .i64 x213.fPort, .int .i64 x213.fUntil, .sl false 2 (List.map tySAddr.c x213.fOpen)] (0 + e191.2.toNat) 6 (SBinding.mk x213.fInside x213.fPeer x213.fPort x213.fUntil (x213.fOpen ++ [r209])) tySAddr (x213.fOpen ++ [r209]) none (.gh 16 (.len 600083 (((e191.1.set (0 + e191.2.toNat) (SBinding.mk x192.fInside x192.fPeer x192.fPort (wi64 (p9 + p4)) x192.fOpen)).set (0 + e191.2.toNat) (SBinding.mk x213.fInside x213.fPeer x213.fPort x213.fUntil (x213.fOpen ++ [r209]))).length) [(e191.1.set (0 + e191.2.toNat) (SBinding.mk x192.fInside x192.fPeer x192.fPort (wi64 (p9 + p4)) x192.fOpen)).length] (by simp)) (.rowg 16 600083 500086 tySBindingO6 ((e191.1.set (0 + e191.2.toNat) (SBinding.mk x192.fInside x192.fPeer x192.fPort (wi64 (p9 + p4)) x192.fOpen)).set (0 + e191.2.toNat) (SBinding.mk x213.fInside x213.fPeer x213.fPort x213.fUntil (x213.fOpen ++ [r209]))) (0 + e191.2.toNat) 6 2 tySAddr (fun x214 => x214.fOpen) (fun _ => rfl) (fun _ => rfl) fun x214 =>
      .hrow 14005 tySBindingO6 ((e191.1.set (0 + e191.2.toNat) (SBinding.mk x192.fInside x192.fPeer x192.fPort (wi64 (p9 + p4)) x192.fOpen)).set (0 + e191.2.toNat) (SBinding.mk x213.fInside x213.fPeer x213.fPort x213.fUntil (x213.fOpen ++ [r209]))) [.str x214.fInside.fHost, .int .i64 x214.fInside.fPort, .str x214.fPeer.fHost, .int .i64 x214.fPeer.fPort, .int .i64 x214.fPort, .int .i64 x214.fUntil, .ref 500086 0 x214.fOpen.length] (0 + e191.2.toNat) (.hrow 14009 tySBindingO6 ((e191.1.set (0 + e191.2.toNat) (SBinding.mk x192.fInside x192.fPeer x192.fPort (wi64 (p9 + p4)) x192.fOpen)).set (0 + e191.2.toNat) (SBinding.mk x213.fInside x213.fPeer x213.fPort x213.fUntil (x213.fOpen ++ [r209]))) [.str x214.fInside.fHost, .int .i64 x214.fInside.fPort, .str x214.fPeer.fHost, .int .i64 x214.fPeer.fPort, .int .i64 x214.fPort, .int .i64 x214.fUntil, .ref 500086 0 x214.fOpen.length] (0 + e191.2.toNat) (.chk 14013 (decide (0 ≤ (if (wi64 ((x214.fOpen.length : Int) - 16)) > (0 : Int) then (wi64 ((x214.fOpen.length : Int) - 16)) else (0 : Int))) && decide ((if (wi64 ((x214.fOpen.length : Int) - 16)) > (0 : Int) then (wi64 ((x214.fOpen.length : Int) - 16)) else (0 : Int)) ≤ (x214.fOpen.length : Int))) (.nst 14016 tySBindingO6 ((e191.1.set (0 + e191.2.toNat) (SBinding.mk x192.fInside x192.fPeer x192.fPort (wi64 (p9 + p4)) x192.fOpen)).set (0 + e191.2.toNat) (SBinding.mk x213.fInside x213.fPeer x213.fPort x213.fUntil (x213.fOpen ++ [r209]))) [.str x214.fInside.fHost, .int .i64 x214.fInside.fPort, .str x214.fPeer.fHost, .int .i64 x214.fPeer.fPort, .int .i64 x214.fPort, .int .i64 x214.fUntil, .ref 500086 0 x214.fOpen.length] (0 + e191.2.toNat) 6 (SBinding.mk x214.fInside x214.fPeer x214.fPort x214.fUntil (x214.fOpen.drop ((if (wi64 ((x214.fOpen.length : Int) - 16)) > (0 : Int) then (wi64 ((x214.fOpen.length : Int) - 16)) else (0 : Int)).toNat))) tySAddr x214.fOpen (some ((if (wi64 ((x214.fOpen.length : Int) - 16)) > (0 : Int) then (wi64 ((x214.fOpen.length : Int) - 16)) else (0 : Int)).toNat)) (.gh 0 (.len 600083 ((((e191.1.set (0 + e191.2.toNat) (SBinding.mk x192.fInside x192.fPeer x192.fPort (wi64 (p9 + p4)) x192.fOpen)).set (0 + e191.2.toNat) (SBinding.mk x213.fInside x213.fPeer x213.fPort x213.fUntil (x213.fOpen ++ [r209]))).set (0 + e191.2.toNat) (SBinding.mk x214.fInside x214.fPeer x214.fPort x214.fUntil (x214.fOpen.drop ((if (wi64 ((x214.fOpen.length : Int) - 16)) > (0 : Int) then (wi64 ((x214.fOpen.length : Int) - 16)) else (0 : Int)).toNat)))).length) [((e191.1.set (0 + e191.2.toNat) (SBinding.mk x192.fInside x192.fPeer x192.fPort (wi64 (p9 + p4)) x192.fOpen)).set (0 + e191.2.toNat) (SBinding.mk x213.fInside x213.fPeer x213.fPort x213.fUntil (x213.fOpen ++ [r209]))).length] (by simp)) (.done (((e191.1.set (0 + e191.2.toNat) (SBinding.mk x192.fInside x192.fPeer x192.fPort (wi64 (p9 + p4)) x192.fOpen)).set (0 + e191.2.toNat) (SBinding.mk x213.fInside x213.fPeer x213.fPort x213.fUntil (x213.fOpen ++ [r209]))).set (0 + e191.2.toNat) (SBinding.mk x214.fInside x214.fPeer x214.fPort x214.fUntil (x214.fOpen.drop ((if (wi64 ((x214.fOpen.length : Int) - 16)) > (0 : Int) then (wi64 ((x214.fOpen.length : Int) - 16)) else (0 : Int)).toNat))))))))))))))
     (.done (e191.1.set (0 + e191.2.toNat) (SBinding.mk x192.fInside x192.fPeer x192.fPort (wi64 (p9 + p4)) x192.fOpen))))
    (fun (e215 : (List SBinding)) => Ext.of .normal [(0, .ptr 1000000 0 0), (6, .ptr 6 0 0), (7, .int .i64 0), (12, .ptr 600083 (0 + e191.2.toNat) 0)] [(6, ⟨2, true, [[.str ByteArray.empty, .int .i64 0]]⟩), (1000000, ⟨9, true, [[.int .i64 p2, .int .i64 p3, .int .i64 p4, .bool p5, .str p6, .int .i64 p7, .int .i64 p8, .int .i64 p9, .ref 600083 0 e215.length]]⟩)] [BT.of 600083 tySBindingO6 7 e215 true] (by rfl))
    (fun e215 =>
     .row 15009 tySBindingO6 e215 (0 + e191.2.toNat) true fun x216 =>
     .gh 0 (.ren 600083 660000) (.done (e215, 0, p6, x216.fPort))) else .fail))))) else bif v == 2 then .call 1009 (s147 p1) [] [] fun r217 =>
  .view 2003 (s85 (SRouter.mk (SNat.mk p2 p3 p4 p5 p6 p7 p8 p9 p10)) p0 r217) [(VwW.of 1000001 tySBindingO6 p10)] fun r218 =>
  .bind2 0
  (.br 0 (decide (r218 < 0))
   (.view 4004 (s87 (SRouter.mk (SNat.mk p2 p3 p4 p5 p6 p7 p8 p9 p10)) p0.fPort) [(VwW.of 1000001 tySBindingO6 p10)] fun r219 =>
    .br 0 (!r219.isSome)
    (.done (.inl ()))
    (.app 8012 tySBindingO6 p10 [(SBinding.mk p0 r217 (r219.getD 0) 0 [])] 88 false (by intro h; cases h) (.gh 0 (.ren 55 600087) (.done (.inr ((p10 ++ [(SBinding.mk p0 r217 (r219.getD 0) 0 [])]), (p10.length : Int)))))))
   (.gh 0 (.ren 1000001 600087) (.done (.inr (p10, r218)))))
  (fun (e220 : Unit) => Ext.of .ret [(0, .ptr 1000000 0 0), (5, .ptr 5 0 0), (6, .ptr 6 0 0), (7, .int .i64 4), (9, .int .i64 r218)] [(5, ⟨2, true, [[.str p1.fHost, .int .i64 p1.fPort]]⟩), (6, ⟨2, true, [[.str ByteArray.empty, .int .i64 0]]⟩), (1000000, ⟨9, true, [[.int .i64 p2, .int .i64 p3, .int .i64 p4, .bool p5, .str p6, .int .i64 p7, .int .i64 p8, .int .i64 p9, .ref 1000001 0 p10.length]]⟩)] [BT.of 1000001 tySBindingO6 7 p10 true] (by rfl))
  (fun (e221 : (List SBinding) × Int) => Ext.of .normal [(0, .ptr 1000000 0 0), (5, .ptr 5 0 0), (6, .ptr 6 0 0), (7, .int .i64 0), (9, .int .i64 e221.2)] [(5, ⟨2, true, [[.str p1.fHost, .int .i64 p1.fPort]]⟩), (6, ⟨2, true, [[.str ByteArray.empty, .int .i64 0]]⟩), (1000000, ⟨9, true, [[.int .i64 p2, .int .i64 p3, .int .i64 p4, .bool p5, .str p6, .int .i64 p7, .int .i64 p8, .int .i64 p9, .ref 600087 0 e221.1.length]]⟩)] [BT.of 600087 tySBindingO6 7 e221.1 true] (by rfl))
  (fun e220 =>
   .gh 0 (.ren 1000001 660000) (.done (p10, 4, ByteArray.empty, 0)))
  (fun e221 =>
   .chk 9007 (decide (0 ≤ e221.2) && decide (e221.2 < (e221.1.length : Int))) (.row 10015 tySBindingO6 e221.1 (0 + e221.2.toNat) true fun x222 =>
   .re 10015 (ReW.put 600087 7 tySBindingO6 e221.1 (0 + e221.2.toNat) (SBinding.mk x222.fInside x222.fPeer x222.fPort (wi64 (p9 + p4)) x222.fOpen)) (.gh 13 (.len 600087 ((e221.1.set (0 + e221.2.toNat) (SBinding.mk x222.fInside x222.fPeer x222.fPort (wi64 (p9 + p4)) x222.fOpen)).length) [e221.1.length] (by simp)) (.ceq 11006 p3 [0, 1, 2, 3] (fun v => bif v == 0 then .fail else bif v == 1 then .call 11009 (s146 p1) [] [] fun r223 =>
    .cnd 12 [103]
    (.br 12008 (p3 != 1)
     (.row 12011 tySBindingO6 (e221.1.set (0 + e221.2.toNat) (SBinding.mk x222.fInside x222.fPeer x222.fPort (wi64 (p9 + p4)) x222.fOpen)) (0 + e221.2.toNat) true fun x224 =>
      .call 12013 (s88 x224.fOpen r223) [] [] fun r225 =>
      .done (!r225))
     (.done false))
    (fun (c226 : Bool) => [.bool c226]) fun c226 =>
    .bind 0
    (.br 0 c226
     (.rowt 13005 tySBindingO6 (e221.1.set (0 + e221.2.toNat) (SBinding.mk x222.fInside x222.fPeer x222.fPort (wi64 (p9 + p4)) x222.fOpen)) (0 + e221.2.toNat) 6 fun x227 =>
      .re 13005 (ReW.take 600087 7 true tySBindingO6 (e221.1.set (0 + e221.2.toNat) (SBinding.mk x222.fInside x222.fPeer x222.fPort (wi64 (p9 + p4)) x222.fOpen)) (0 + e221.2.toNat) [.str x227.fInside.fHost, .int .i64 x227.fInside.fPort, .str x227.fPeer.fHost, .int .i64 x227.fPeer.fPort, .int .i64 x227.fPort, .int .i64 x227.fUntil, .sl false 2 (List.map tySAddr.c x227.fOpen)] rfl 108 2 tySAddr x227.fOpen (fun _ => rfl) (fun n => .ref 108 0 n)) (.app 13008 tySAddr x227.fOpen [r223] 24 false (by intro h; cases h) (.nst 13011 tySBindingO6 (e221.1.set (0 + e221.2.toNat) (SBinding.mk x222.fInside x222.fPeer x222.fPort (wi64 (p9 + p4)) x222.fOpen)) [.str x227.fInside.fHost, .int .i64 x227.fInside.fPort, .str x227.fPeer.fHost, .int .i64 x227.fPeer.fPort, .int .i64 x227.fPort, .int .i64 x227.fUntil, .sl false 2 (List.map tySAddr.c x227.fOpen)] (0 + e221.2.toNat) 6 (SBinding.mk x227.fInside x227.fPeer x227.fPort x227.fUntil (x227.fOpen ++ [r223])) tySAddr (x227.fOpen ++ [r223]) none (.gh 16 (.len 600087 (((e221.1.set (0 + e221.2.toNat) (SBinding.mk x222.fInside x222.fPeer x222.fPort (wi64 (p9 + p4)) x222.fOpen)).set (0 + e221.2.toNat) (SBinding.mk x227.fInside x227.fPeer x227.fPort x227.fUntil (x227.fOpen ++ [r223]))).length) [(e221.1.set (0 + e221.2.toNat) (SBinding.mk x222.fInside x222.fPeer x222.fPort (wi64 (p9 + p4)) x222.fOpen)).length] (by simp)) (.rowg 16 600087 500088 tySBindingO6 ((e221.1.set (0 + e221.2.toNat) (SBinding.mk x222.fInside x222.fPeer x222.fPort (wi64 (p9 + p4)) x222.fOpen)).set (0 + e221.2.toNat) (SBinding.mk x227.fInside x227.fPeer x227.fPort x227.fUntil (x227.fOpen ++ [r223]))) (0 + e221.2.toNat) 6 2 tySAddr (fun x228 => x228.fOpen) (fun _ => rfl) (fun _ => rfl) fun x228 =>
      .hrow 14005 tySBindingO6 ((e221.1.set (0 + e221.2.toNat) (SBinding.mk x222.fInside x222.fPeer x222.fPort (wi64 (p9 + p4)) x222.fOpen)).set (0 + e221.2.toNat) (SBinding.mk x227.fInside x227.fPeer x227.fPort x227.fUntil (x227.fOpen ++ [r223]))) [.str x228.fInside.fHost, .int .i64 x228.fInside.fPort, .str x228.fPeer.fHost, .int .i64 x228.fPeer.fPort, .int .i64 x228.fPort, .int .i64 x228.fUntil, .ref 500088 0 x228.fOpen.length] (0 + e221.2.toNat) (.hrow 14009 tySBindingO6 ((e221.1.set (0 + e221.2.toNat) (SBinding.mk x222.fInside x222.fPeer x222.fPort (wi64 (p9 + p4)) x222.fOpen)).set (0 + e221.2.toNat) (SBinding.mk x227.fInside x227.fPeer x227.fPort x227.fUntil (x227.fOpen ++ [r223]))) [.str x228.fInside.fHost, .int .i64 x228.fInside.fPort, .str x228.fPeer.fHost, .int .i64 x228.fPeer.fPort, .int .i64 x228.fPort, .int .i64 x228.fUntil, .ref 500088 0 x228.fOpen.length] (0 + e221.2.toNat) (.chk 14013 (decide (0 ≤ (if (wi64 ((x228.fOpen.length : Int) - 16)) > (0 : Int) then (wi64 ((x228.fOpen.length : Int) - 16)) else (0 : Int))) && decide ((if (wi64 ((x228.fOpen.length : Int) - 16)) > (0 : Int) then (wi64 ((x228.fOpen.length : Int) - 16)) else (0 : Int)) ≤ (x228.fOpen.length : Int))) (.nst 14016 tySBindingO6 ((e221.1.set (0 + e221.2.toNat) (SBinding.mk x222.fInside x222.fPeer x222.fPort (wi64 (p9 + p4)) x222.fOpen)).set (0 + e221.2.toNat) (SBinding.mk x227.fInside x227.fPeer x227.fPort x227.fUntil (x227.fOpen ++ [r223]))) [.str x228.fInside.fHost, .int .i64 x228.fInside.fPort, .str x228.fPeer.fHost, .int .i64 x228.fPeer.fPort, .int .i64 x228.fPort, .int .i64 x228.fUntil, .ref 500088 0 x228.fOpen.length] (0 + e221.2.toNat) 6 (SBinding.mk x228.fInside x228.fPeer x228.fPort x228.fUntil (x228.fOpen.drop ((if (wi64 ((x228.fOpen.length : Int) - 16)) > (0 : Int) then (wi64 ((x228.fOpen.length : Int) - 16)) else (0 : Int)).toNat))) tySAddr x228.fOpen (some ((if (wi64 ((x228.fOpen.length : Int) - 16)) > (0 : Int) then (wi64 ((x228.fOpen.length : Int) - 16)) else (0 : Int)).toNat)) (.gh 0 (.len 600087 ((((e221.1.set (0 + e221.2.toNat) (SBinding.mk x222.fInside x222.fPeer x222.fPort (wi64 (p9 + p4)) x222.fOpen)).set (0 + e221.2.toNat) (SBinding.mk x227.fInside x227.fPeer x227.fPort x227.fUntil (x227.fOpen ++ [r223]))).set (0 + e221.2.toNat) (SBinding.mk x228.fInside x228.fPeer x228.fPort x228.fUntil (x228.fOpen.drop ((if (wi64 ((x228.fOpen.length : Int) - 16)) > (0 : Int) then (wi64 ((x228.fOpen.length : Int) - 16)) else (0 : Int)).toNat)))).length) [((e221.1.set (0 + e221.2.toNat) (SBinding.mk x222.fInside x222.fPeer x222.fPort (wi64 (p9 + p4)) x222.fOpen)).set (0 + e221.2.toNat) (SBinding.mk x227.fInside x227.fPeer x227.fPort x227.fUntil (x227.fOpen ++ [r223]))).length] (by simp)) (.done (((e221.1.set (0 + e221.2.toNat) (SBinding.mk x222.fInside x222.fPeer x222.fPort (wi64 (p9 + p4)) x222.fOpen)).set (0 + e221.2.toNat) (SBinding.mk x227.fInside x227.fPeer x227.fPort x227.fUntil (x227.fOpen ++ [r223]))).set (0 + e221.2.toNat) (SBinding.mk x228.fInside x228.fPeer x228.fPort x228.fUntil (x228.fOpen.drop ((if (wi64 ((x228.fOpen.length : Int) - 16)) > (0 : Int) then (wi64 ((x228.fOpen.length : Int) - 16)) else (0 : Int)).toNat))))))))))))))
     (.done (e221.1.set (0 + e221.2.toNat) (SBinding.mk x222.fInside x222.fPeer x222.fPort (wi64 (p9 + p4)) x222.fOpen))))
    (fun (e229 : (List SBinding)) => Ext.of .normal [(0, .ptr 1000000 0 0), (6, .ptr 6 0 0), (7, .int .i64 0), (12, .ptr 600087 (0 + e221.2.toNat) 0)] [(6, ⟨2, true, [[.str ByteArray.empty, .int .i64 0]]⟩), (1000000, ⟨9, true, [[.int .i64 p2, .int .i64 p3, .int .i64 p4, .bool p5, .str p6, .int .i64 p7, .int .i64 p8, .int .i64 p9, .ref 600087 0 e229.length]]⟩)] [BT.of 600087 tySBindingO6 7 e229 true] (by rfl))
    (fun e229 =>
     .row 15009 tySBindingO6 e229 (0 + e221.2.toNat) true fun x230 =>
     .gh 0 (.ren 600087 660000) (.done (e229, 0, p6, x230.fPort))) else bif v == 2 then .call 11009 (s147 p1) [] [] fun r231 =>
    .cnd 12 [103]
    (.br 12008 (p3 != 1)
     (.row 12011 tySBindingO6 (e221.1.set (0 + e221.2.toNat) (SBinding.mk x222.fInside x222.fPeer x222.fPort (wi64 (p9 + p4)) x222.fOpen)) (0 + e221.2.toNat) true fun x232 =>
      .call 12013 (s88 x232.fOpen r231) [] [] fun r233 =>
      .done (!r233))
     (.done false))
    (fun (c234 : Bool) => [.bool c234]) fun c234 =>
    .bind 0
    (.br 0 c234
     (.rowt 13005 tySBindingO6 (e221.1.set (0 + e221.2.toNat) (SBinding.mk x222.fInside x222.fPeer x222.fPort (wi64 (p9 + p4)) x222.fOpen)) (0 + e221.2.toNat) 6 fun x235 =>
      .re 13005 (ReW.take 600087 7 true tySBindingO6 (e221.1.set (0 + e221.2.toNat) (SBinding.mk x222.fInside x222.fPeer x222.fPort (wi64 (p9 + p4)) x222.fOpen)) (0 + e221.2.toNat) [.str x235.fInside.fHost, .int .i64 x235.fInside.fPort, .str x235.fPeer.fHost, .int .i64 x235.fPeer.fPort, .int .i64 x235.fPort, .int .i64 x235.fUntil, .sl false 2 (List.map tySAddr.c x235.fOpen)] rfl 108 2 tySAddr x235.fOpen (fun _ => rfl) (fun n => .ref 108 0 n)) (.app 13008 tySAddr x235.fOpen [r231] 24 false (by intro h; cases h) (.nst 13011 tySBindingO6 (e221.1.set (0 + e221.2.toNat) (SBinding.mk x222.fInside x222.fPeer x222.fPort (wi64 (p9 + p4)) x222.fOpen)) [.str x235.fInside.fHost, .int .i64 x235.fInside.fPort, .str x235.fPeer.fHost, .int .i64 x235.fPeer.fPort, .int .i64 x235.fPort, .int .i64 x235.fUntil, .sl false 2 (List.map tySAddr.c x235.fOpen)] (0 + e221.2.toNat) 6 (SBinding.mk x235.fInside x235.fPeer x235.fPort x235.fUntil (x235.fOpen ++ [r231])) tySAddr (x235.fOpen ++ [r231]) none (.gh 16 (.len 600087 (((e221.1.set (0 + e221.2.toNat) (SBinding.mk x222.fInside x222.fPeer x222.fPort (wi64 (p9 + p4)) x222.fOpen)).set (0 + e221.2.toNat) (SBinding.mk x235.fInside x235.fPeer x235.fPort x235.fUntil (x235.fOpen ++ [r231]))).length) [(e221.1.set (0 + e221.2.toNat) (SBinding.mk x222.fInside x222.fPeer x222.fPort (wi64 (p9 + p4)) x222.fOpen)).length] (by simp)) (.rowg 16 600087 500089 tySBindingO6 ((e221.1.set (0 + e221.2.toNat) (SBinding.mk x222.fInside x222.fPeer x222.fPort (wi64 (p9 + p4)) x222.fOpen)).set (0 + e221.2.toNat) (SBinding.mk x235.fInside x235.fPeer x235.fPort x235.fUntil (x235.fOpen ++ [r231]))) (0 + e221.2.toNat) 6 2 tySAddr (fun x236 => x236.fOpen) (fun _ => rfl) (fun _ => rfl) fun x236 =>
      .hrow 14005 tySBindingO6 ((e221.1.set (0 + e221.2.toNat) (SBinding.mk x222.fInside x222.fPeer x222.fPort (wi64 (p9 + p4)) x222.fOpen)).set (0 + e221.2.toNat) (SBinding.mk x235.fInside x235.fPeer x235.fPort x235.fUntil (x235.fOpen ++ [r231]))) [.str x236.fInside.fHost, .int .i64 x236.fInside.fPort, .str x236.fPeer.fHost, .int .i64 x236.fPeer.fPort, .int .i64 x236.fPort, .int .i64 x236.fUntil, .ref 500089 0 x236.fOpen.length] (0 + e221.2.toNat) (.hrow 14009 tySBindingO6 ((e221.1.set (0 + e221.2.toNat) (SBinding.mk x222.fInside x222.fPeer x222.fPort (wi64 (p9 + p4)) x222.fOpen)).set (0 + e221.2.toNat) (SBinding.mk x235.fInside x235.fPeer x235.fPort x235.fUntil (x235.fOpen ++ [r231]))) [.str x236.fInside.fHost, .int .i64 x236.fInside.fPort, .str x236.fPeer.fHost, .int .i64 x236.fPeer.fPort, .int .i64 x236.fPort, .int .i64 x236.fUntil, .ref 500089 0 x236.fOpen.length] (0 + e221.2.toNat) (.chk 14013 (decide (0 ≤ (if (wi64 ((x236.fOpen.length : Int) - 16)) > (0 : Int) then (wi64 ((x236.fOpen.length : Int) - 16)) else (0 : Int))) && decide ((if (wi64 ((x236.fOpen.length : Int) - 16)) > (0 : Int) then (wi64 ((x236.fOpen.length : Int) - 16)) else (0 : Int)) ≤ (x236.fOpen.length : Int))) (.nst 14016 tySBindingO6 ((e221.1.set (0 + e221.2.toNat) (SBinding.mk x222.fInside x222.fPeer x222.fPort (wi64 (p9 + p4)) x222.fOpen)).set (0 + e221.2.toNat) (SBinding.mk x235.fInside x235.fPeer x235.fPort x235.fUntil (x235.fOpen ++ [r231]))) [.str x236.fInside.fHost, .int .i64 x236.fInside.fPort, .str x236.fPeer.fHost, .int .i64 x236.fPeer.fPort, .int .i64 x236.fPort, .int .i64 x236.fUntil, .ref 500089 0 x236.fOpen.length] (0 + e221.2.toNat) 6 (SBinding.mk x236.fInside x236.fPeer x236.fPort x236.fUntil (x236.fOpen.drop ((if (wi64 ((x236.fOpen.length : Int) - 16)) > (0 : Int) then (wi64 ((x236.fOpen.length : Int) - 16)) else (0 : Int)).toNat))) tySAddr x236.fOpen (some ((if (wi64 ((x236.fOpen.length : Int) - 16)) > (0 : Int) then (wi64 ((x236.fOpen.length : Int) - 16)) else (0 : Int)).toNat)) (.gh 0 (.len 600087 ((((e221.1.set (0 + e221.2.toNat) (SBinding.mk x222.fInside x222.fPeer x222.fPort (wi64 (p9 + p4)) x222.fOpen)).set (0 + e221.2.toNat) (SBinding.mk x235.fInside x235.fPeer x235.fPort x235.fUntil (x235.fOpen ++ [r231]))).set (0 + e221.2.toNat) (SBinding.mk x236.fInside x236.fPeer x236.fPort x236.fUntil (x236.fOpen.drop ((if (wi64 ((x236.fOpen.length : Int) - 16)) > (0 : Int) then (wi64 ((x236.fOpen.length : Int) - 16)) else (0 : Int)).toNat)))).length) [((e221.1.set (0 + e221.2.toNat) (SBinding.mk x222.fInside x222.fPeer x222.fPort (wi64 (p9 + p4)) x222.fOpen)).set (0 + e221.2.toNat) (SBinding.mk x235.fInside x235.fPeer x235.fPort x235.fUntil (x235.fOpen ++ [r231]))).length] (by simp)) (.done (((e221.1.set (0 + e221.2.toNat) (SBinding.mk x222.fInside x222.fPeer x222.fPort (wi64 (p9 + p4)) x222.fOpen)).set (0 + e221.2.toNat) (SBinding.mk x235.fInside x235.fPeer x235.fPort x235.fUntil (x235.fOpen ++ [r231]))).set (0 + e221.2.toNat) (SBinding.mk x236.fInside x236.fPeer x236.fPort x236.fUntil (x236.fOpen.drop ((if (wi64 ((x236.fOpen.length : Int) - 16)) > (0 : Int) then (wi64 ((x236.fOpen.length : Int) - 16)) else (0 : Int)).toNat))))))))))))))
     (.done (e221.1.set (0 + e221.2.toNat) (SBinding.mk x222.fInside x222.fPeer x222.fPort (wi64 (p9 + p4)) x222.fOpen))))
    (fun (e237 : (List SBinding)) => Ext.of .normal [(0, .ptr 1000000 0 0), (6, .ptr 6 0 0), (7, .int .i64 0), (12, .ptr 600087 (0 + e221.2.toNat) 0)] [(6, ⟨2, true, [[.str ByteArray.empty, .int .i64 0]]⟩), (1000000, ⟨9, true, [[.int .i64 p2, .int .i64 p3, .int .i64 p4, .bool p5, .str p6, .int .i64 p7, .int .i64 p8, .int .i64 p9, .ref 600087 0 e237.length]]⟩)] [BT.of 600087 tySBindingO6 7 e237 true] (by rfl))
    (fun e237 =>
     .row 15009 tySBindingO6 e237 (0 + e221.2.toNat) true fun x238 =>
     .gh 0 (.ren 600087 660000) (.done (e237, 0, p6, x238.fPort))) else bif v == 3 then .call 11009 (s148 p1) [] [] fun r239 =>
    .cnd 12 [103]
    (.br 12008 (p3 != 1)
     (.row 12011 tySBindingO6 (e221.1.set (0 + e221.2.toNat) (SBinding.mk x222.fInside x222.fPeer x222.fPort (wi64 (p9 + p4)) x222.fOpen)) (0 + e221.2.toNat) true fun x240 =>
      .call 12013 (s88 x240.fOpen r239) [] [] fun r241 =>
      .done (!r241))
     (.done false))
    (fun (c242 : Bool) => [.bool c242]) fun c242 =>
    .bind 0
    (.br 0 c242
     (.rowt 13005 tySBindingO6 (e221.1.set (0 + e221.2.toNat) (SBinding.mk x222.fInside x222.fPeer x222.fPort (wi64 (p9 + p4)) x222.fOpen)) (0 + e221.2.toNat) 6 fun x243 =>
      .re 13005 (ReW.take 600087 7 true tySBindingO6 (e221.1.set (0 + e221.2.toNat) (SBinding.mk x222.fInside x222.fPeer x222.fPort (wi64 (p9 + p4)) x222.fOpen)) (0 + e221.2.toNat) [.str x243.fInside.fHost, .int .i64 x243.fInside.fPort, .str x243.fPeer.fHost, .int .i64 x243.fPeer.fPort, .int .i64 x243.fPort, .int .i64 x243.fUntil, .sl false 2 (List.map tySAddr.c x243.fOpen)] rfl 108 2 tySAddr x243.fOpen (fun _ => rfl) (fun n => .ref 108 0 n)) (.app 13008 tySAddr x243.fOpen [r239] 24 false (by intro h; cases h) (.nst 13011 tySBindingO6 (e221.1.set (0 + e221.2.toNat) (SBinding.mk x222.fInside x222.fPeer x222.fPort (wi64 (p9 + p4)) x222.fOpen)) [.str x243.fInside.fHost, .int .i64 x243.fInside.fPort, .str x243.fPeer.fHost, .int .i64 x243.fPeer.fPort, .int .i64 x243.fPort, .int .i64 x243.fUntil, .sl false 2 (List.map tySAddr.c x243.fOpen)] (0 + e221.2.toNat) 6 (SBinding.mk x243.fInside x243.fPeer x243.fPort x243.fUntil (x243.fOpen ++ [r239])) tySAddr (x243.fOpen ++ [r239]) none (.gh 16 (.len 600087 (((e221.1.set (0 + e221.2.toNat) (SBinding.mk x222.fInside x222.fPeer x222.fPort (wi64 (p9 + p4)) x222.fOpen)).set (0 + e221.2.toNat) (SBinding.mk x243.fInside x243.fPeer x243.fPort x243.fUntil (x243.fOpen ++ [r239]))).length) [(e221.1.set (0 + e221.2.toNat) (SBinding.mk x222.fInside x222.fPeer x222.fPort (wi64 (p9 + p4)) x222.fOpen)).length] (by simp)) (.rowg 16 600087 500090 tySBindingO6 ((e221.1.set (0 + e221.2.toNat) (SBinding.mk x222.fInside x222.fPeer x222.fPort (wi64 (p9 + p4)) x222.fOpen)).set (0 + e221.2.toNat) (SBinding.mk x243.fInside x243.fPeer x243.fPort x243.fUntil (x243.fOpen ++ [r239]))) (0 + e221.2.toNat) 6 2 tySAddr (fun x244 => x244.fOpen) (fun _ => rfl) (fun _ => rfl) fun x244 =>
      .hrow 14005 tySBindingO6 ((e221.1.set (0 + e221.2.toNat) (SBinding.mk x222.fInside x222.fPeer x222.fPort (wi64 (p9 + p4)) x222.fOpen)).set (0 + e221.2.toNat) (SBinding.mk x243.fInside x243.fPeer x243.fPort x243.fUntil (x243.fOpen ++ [r239]))) [.str x244.fInside.fHost, .int .i64 x244.fInside.fPort, .str x244.fPeer.fHost, .int .i64 x244.fPeer.fPort, .int .i64 x244.fPort, .int .i64 x244.fUntil, .ref 500090 0 x244.fOpen.length] (0 + e221.2.toNat) (.hrow 14009 tySBindingO6 ((e221.1.set (0 + e221.2.toNat) (SBinding.mk x222.fInside x222.fPeer x222.fPort (wi64 (p9 + p4)) x222.fOpen)).set (0 + e221.2.toNat) (SBinding.mk x243.fInside x243.fPeer x243.fPort x243.fUntil (x243.fOpen ++ [r239]))) [.str x244.fInside.fHost, .int .i64 x244.fInside.fPort, .str x244.fPeer.fHost, .int .i64 x244.fPeer.fPort, .int .i64 x244.fPort, .int .i64 x244.fUntil, .ref 500090 0 x244.fOpen.length] (0 + e221.2.toNat) (.chk 14013 (decide (0 ≤ (if (wi64 ((x244.fOpen.length : Int) - 16)) > (0 : Int) then (wi64 ((x244.fOpen.length : Int) - 16)) else (0 : Int))) && decide ((if (wi64 ((x244.fOpen.length : Int) - 16)) > (0 : Int) then (wi64 ((x244.fOpen.length : Int) - 16)) else (0 : Int)) ≤ (x244.fOpen.length : Int))) (.nst 14016 tySBindingO6 ((e221.1.set (0 + e221.2.toNat) (SBinding.mk x222.fInside x222.fPeer x222.fPort (wi64 (p9 + p4)) x222.fOpen)).set (0 + e221.2.toNat) (SBinding.mk x243.fInside x243.fPeer x243.fPort x243.fUntil (x243.fOpen ++ [r239]))) [.str x244.fInside.fHost, .int .i64 x244.fInside.fPort, .str x244.fPeer.fHost, .int .i64 x244.fPeer.fPort, .int .i64 x244.fPort, .int .i64 x244.fUntil, .ref 500090 0 x244.fOpen.length] (0 + e221.2.toNat) 6 (SBinding.mk x244.fInside x244.fPeer x244.fPort x244.fUntil (x244.fOpen.drop ((if (wi64 ((x244.fOpen.length : Int) - 16)) > (0 : Int) then (wi64 ((x244.fOpen.length : Int) - 16)) else (0 : Int)).toNat))) tySAddr x244.fOpen (some ((if (wi64 ((x244.fOpen.length : Int) - 16)) > (0 : Int) then (wi64 ((x244.fOpen.length : Int) - 16)) else (0 : Int)).toNat)) (.gh 0 (.len 600087 ((((e221.1.set (0 + e221.2.toNat) (SBinding.mk x222.fInside x222.fPeer x222.fPort (wi64 (p9 + p4)) x222.fOpen)).set (0 + e221.2.toNat) (SBinding.mk x243.fInside x243.fPeer x243.fPort x243.fUntil (x243.fOpen ++ [r239]))).set (0 + e221.2.toNat) (SBinding.mk x244.fInside x244.fPeer x244.fPort x244.fUntil (x244.fOpen.drop ((if (wi64 ((x244.fOpen.length : Int) - 16)) > (0 : Int) then (wi64 ((x244.fOpen.length : Int) - 16)) else (0 : Int)).toNat)))).length) [((e221.1.set (0 + e221.2.toNat) (SBinding.mk x222.fInside x222.fPeer x222.fPort (wi64 (p9 + p4)) x222.fOpen)).set (0 + e221.2.toNat) (SBinding.mk x243.fInside x243.fPeer x243.fPort x243.fUntil (x243.fOpen ++ [r239]))).length] (by simp)) (.done (((e221.1.set (0 + e221.2.toNat) (SBinding.mk x222.fInside x222.fPeer x222.fPort (wi64 (p9 + p4)) x222.fOpen)).set (0 + e221.2.toNat) (SBinding.mk x243.fInside x243.fPeer x243.fPort x243.fUntil (x243.fOpen ++ [r239]))).set (0 + e221.2.toNat) (SBinding.mk x244.fInside x244.fPeer x244.fPort x244.fUntil (x244.fOpen.drop ((if (wi64 ((x244.fOpen.length : Int) - 16)) > (0 : Int) then (wi64 ((x244.fOpen.length : Int) - 16)) else (0 : Int)).toNat))))))))))))))
     (.done (e221.1.set (0 + e221.2.toNat) (SBinding.mk x222.fInside x222.fPeer x222.fPort (wi64 (p9 + p4)) x222.fOpen))))
    (fun (e245 : (List SBinding)) => Ext.of .normal [(0, .ptr 1000000 0 0), (6, .ptr 6 0 0), (7, .int .i64 0), (12, .ptr 600087 (0 + e221.2.toNat) 0)] [(6, ⟨2, true, [[.str ByteArray.empty, .int .i64 0]]⟩), (1000000, ⟨9, true, [[.int .i64 p2, .int .i64 p3, .int .i64 p4, .bool p5, .str p6, .int .i64 p7, .int .i64 p8, .int .i64 p9, .ref 600087 0 e245.length]]⟩)] [BT.of 600087 tySBindingO6 7 e245 true] (by rfl))
    (fun e245 =>
     .row 15009 tySBindingO6 e245 (0 + e221.2.toNat) true fun x246 =>
     .gh 0 (.ren 600087 660000) (.done (e245, 0, p6, x246.fPort))) else .fail))))) else bif v == 3 then .call 1009 (s148 p1) [] [] fun r247 =>
  .view 2003 (s85 (SRouter.mk (SNat.mk p2 p3 p4 p5 p6 p7 p8 p9 p10)) p0 r247) [(VwW.of 1000001 tySBindingO6 p10)] fun r248 =>
  .bind2 0
  (.br 0 (decide (r248 < 0))
   (.view 4004 (s87 (SRouter.mk (SNat.mk p2 p3 p4 p5 p6 p7 p8 p9 p10)) p0.fPort) [(VwW.of 1000001 tySBindingO6 p10)] fun r249 =>
    .br 0 (!r249.isSome)
    (.done (.inl ()))
    (.app 8012 tySBindingO6 p10 [(SBinding.mk p0 r247 (r249.getD 0) 0 [])] 88 false (by intro h; cases h) (.gh 0 (.ren 55 600091) (.done (.inr ((p10 ++ [(SBinding.mk p0 r247 (r249.getD 0) 0 [])]), (p10.length : Int)))))))
   (.gh 0 (.ren 1000001 600091) (.done (.inr (p10, r248)))))
  (fun (e250 : Unit) => Ext.of .ret [(0, .ptr 1000000 0 0), (5, .ptr 5 0 0), (6, .ptr 6 0 0), (7, .int .i64 4), (9, .int .i64 r248)] [(5, ⟨2, true, [[.str p1.fHost, .int .i64 p1.fPort]]⟩), (6, ⟨2, true, [[.str ByteArray.empty, .int .i64 0]]⟩), (1000000, ⟨9, true, [[.int .i64 p2, .int .i64 p3, .int .i64 p4, .bool p5, .str p6, .int .i64 p7, .int .i64 p8, .int .i64 p9, .ref 1000001 0 p10.length]]⟩)] [BT.of 1000001 tySBindingO6 7 p10 true] (by rfl))
  (fun (e251 : (List SBinding) × Int) => Ext.of .normal [(0, .ptr 1000000 0 0), (5, .ptr 5 0 0), (6, .ptr 6 0 0), (7, .int .i64 0), (9, .int .i64 e251.2)] [(5, ⟨2, true, [[.str p1.fHost, .int .i64 p1.fPort]]⟩), (6, ⟨2, true, [[.str ByteArray.empty, .int .i64 0]]⟩), (1000000, ⟨9, true, [[.int .i64 p2, .int .i64 p3, .int .i64 p4, .bool p5, .str p6, .int .i64 p7, .int .i64 p8, .int .i64 p9, .ref 600091 0 e251.1.length]]⟩)] [BT.of 600091 tySBindingO6 7 e251.1 true] (by rfl))
  (fun e250 =>
   .gh 0 (.ren 1000001 660000) (.done (p10, 4, ByteArray.empty, 0)))
  (fun e251 =>
   .chk 9007 (decide (0 ≤ e251.2) && decide (e251.2 < (e251.1.length : Int))) (.row 10015 tySBindingO6 e251.1 (0 + e251.2.toNat) true fun x252 =>
   .re 10015 (ReW.put 600091 7 tySBindingO6 e251.1 (0 + e251.2.toNat) (SBinding.mk x252.fInside x252.fPeer x252.fPort (wi64 (p9 + p4)) x252.fOpen)) (.gh 13 (.len 600091 ((e251.1.set (0 + e251.2.toNat) (SBinding.mk x252.fInside x252.fPeer x252.fPort (wi64 (p9 + p4)) x252.fOpen)).length) [e251.1.length] (by simp)) (.ceq 11006 p3 [0, 1, 2, 3] (fun v => bif v == 0 then .fail else bif v == 1 then .call 11009 (s146 p1) [] [] fun r253 =>
    .cnd 12 [103]
    (.br 12008 (p3 != 1)
     (.row 12011 tySBindingO6 (e251.1.set (0 + e251.2.toNat) (SBinding.mk x252.fInside x252.fPeer x252.fPort (wi64 (p9 + p4)) x252.fOpen)) (0 + e251.2.toNat) true fun x254 =>
      .call 12013 (s88 x254.fOpen r253) [] [] fun r255 =>
      .done (!r255))
     (.done false))
    (fun (c256 : Bool) => [.bool c256]) fun c256 =>
    .bind 0
    (.br 0 c256
     (.rowt 13005 tySBindingO6 (e251.1.set (0 + e251.2.toNat) (SBinding.mk x252.fInside x252.fPeer x252.fPort (wi64 (p9 + p4)) x252.fOpen)) (0 + e251.2.toNat) 6 fun x257 =>
      .re 13005 (ReW.take 600091 7 true tySBindingO6 (e251.1.set (0 + e251.2.toNat) (SBinding.mk x252.fInside x252.fPeer x252.fPort (wi64 (p9 + p4)) x252.fOpen)) (0 + e251.2.toNat) [.str x257.fInside.fHost, .int .i64 x257.fInside.fPort, .str x257.fPeer.fHost, .int .i64 x257.fPeer.fPort, .int .i64 x257.fPort, .int .i64 x257.fUntil, .sl false 2 (List.map tySAddr.c x257.fOpen)] rfl 108 2 tySAddr x257.fOpen (fun _ => rfl) (fun n => .ref 108 0 n)) (.app 13008 tySAddr x257.fOpen [r253] 24 false (by intro h; cases h) (.nst 13011 tySBindingO6 (e251.1.set (0 + e251.2.toNat) (SBinding.mk x252.fInside x252.fPeer x252.fPort (wi64 (p9 + p4)) x252.fOpen)) [.str x257.fInside.fHost, .int .i64 x257.fInside.fPort, .str x257.fPeer.fHost, .int .i64 x257.fPeer.fPort, .int .i64 x257.fPort, .int .i64 x257.fUntil, .sl false 2 (List.map tySAddr.c x257.fOpen)] (0 + e251.2.toNat) 6 (SBinding.mk x257.fInside x257.fPeer x257.fPort x257.fUntil (x257.fOpen ++ [r253])) tySAddr (x257.fOpen ++ [r253]) none (.gh 16 (.len 600091 (((e251.1.set (0 + e251.2.toNat) (SBinding.mk x252.fInside x252.fPeer x252.fPort (wi64 (p9 + p4)) x252.fOpen)).set (0 + e251.2.toNat) (SBinding.mk x257.fInside x257.fPeer x257.fPort x257.fUntil (x257.fOpen ++ [r253]))).length) [(e251.1.set (0 + e251.2.toNat) (SBinding.mk x252.fInside x252.fPeer x252.fPort (wi64 (p9 + p4)) x252.fOpen)).length] (by simp)) (.rowg 16 600091 500092 tySBindingO6 ((e251.1.set (0 + e251.2.toNat) (SBinding.mk x252.fInside x252.fPeer x252.fPort (wi64 (p9 + p4)) x252.fOpen)).set (0 + e251.2.toNat) (SBinding.mk x257.fInside x257.fPeer x257.fPort x257.fUntil (x257.fOpen ++ [r253]))) (0 + e251.2.toNat) 6 2 tySAddr (fun x258 => x258.fOpen) (fun _ => rfl) (fun _ => rfl) fun x258 =>
      .hrow 14005 tySBindingO6 ((e251.1.set (0 + e251.2.toNat) (SBinding.mk x252.fInside x252.fPeer x252.fPort (wi64 (p9 + p4)) x252.fOpen)).set (0 + e251.2.toNat) (SBinding.mk x257.fInside x257.fPeer x257.fPort x257.fUntil (x257.fOpen ++ [r253]))) [.str x258.fInside.fHost, .int .i64 x258.fInside.fPort, .str x258.fPeer.fHost, .int .i64 x258.fPeer.fPort, .int .i64 x258.fPort, .int .i64 x258.fUntil, .ref 500092 0 x258.fOpen.length] (0 + e251.2.toNat) (.hrow 14009 tySBindingO6 ((e251.1.set (0 + e251.2.toNat) (SBinding.mk x252.fInside x252.fPeer x252.fPort (wi64 (p9 + p4)) x252.fOpen)).set (0 + e251.2.toNat) (SBinding.mk x257.fInside x257.fPeer x257.fPort x257.fUntil (x257.fOpen ++ [r253]))) [.str x258.fInside.fHost, .int .i64 x258.fInside.fPort, .str x258.fPeer.fHost, .int .i64 x258.fPeer.fPort, .int .i64 x258.fPort, .int .i64 x258.fUntil, .ref 500092 0 x258.fOpen.length] (0 + e251.2.toNat) (.chk 14013 (decide (0 ≤ (if (wi64 ((x258.fOpen.length : Int) - 16)) > (0 : Int) then (wi64 ((x258.fOpen.length : Int) - 16)) else (0 : Int))) && decide ((if (wi64 ((x258.fOpen.length : Int) - 16)) > (0 : Int) then (wi64 ((x258.fOpen.length : Int) - 16)) else (0 : Int)) ≤ (x258.fOpen.length : Int))) (.nst 14016 tySBindingO6 ((e251.1.set (0 + e251.2.toNat) (SBinding.mk x252.fInside x252.fPeer x252.fPort (wi64 (p9 + p4)) x252.fOpen)).set (0 + e251.2.toNat) (SBinding.mk x257.fInside x257.fPeer x257.fPort x257.fUntil (x257.fOpen ++ [r253]))) [.str x258.fInside.fHost, .int .i64 x258.fInside.fPort, .str x258.fPeer.fHost, .int .i64 x258.fPeer.fPort, .int .i64 x258.fPort, .int .i64 x258.fUntil, .ref 500092 0 x258.fOpen.length] (0 + e251.2.toNat) 6 (SBinding.mk x258.fInside x258.fPeer x258.fPort x258.fUntil (x258.fOpen.drop ((if (wi64 ((x258.fOpen.length : Int) - 16)) > (0 : Int) then (wi64 ((x258.fOpen.length : Int) - 16)) else (0 : Int)).toNat))) tySAddr x258.fOpen (some ((if (wi64 ((x258.fOpen.length : Int) - 16)) > (0 : Int) then (wi64 ((x258.fOpen.length : Int) - 16)) else (0 : Int)).toNat)) (.gh 0 (.len 600091 ((((e251.1.set (0 + e251.2.toNat) (SBinding.mk x252.fInside x252.fPeer x252.fPort (wi64 (p9 + p4)) x252.fOpen)).set (0 + e251.2.toNat) (SBinding.mk x257.fInside x257.fPeer x257.fPort x257.fUntil (x257.fOpen ++ [r253]))).set (0 + e251.2.toNat) (SBinding.mk x258.fInside x258.fPeer x258.fPort x258.fUntil (x258.fOpen.drop ((if (wi64 ((x258.fOpen.length : Int) - 16)) > (0 : Int) then (wi64 ((x258.fOpen.length : Int) - 16)) else (0 : Int)).toNat)))).length) [((e251.1.set (0 + e251.2.toNat) (SBinding.mk x252.fInside x252.fPeer x252.fPort (wi64 (p9 + p4)) x252.fOpen)).set (0 + e251.2.toNat) (SBinding.mk x257.fInside x257.fPeer x257.fPort x257.fUntil (x257.fOpen ++ [r253]))).length] (by simp)) (.done (((e251.1.set (0 + e251.2.toNat) (SBinding.mk x252.fInside x252.fPeer x252.fPort (wi64 (p9 + p4)) x252.fOpen)).set (0 + e251.2.toNat) (SBinding.mk x257.fInside x257.fPeer x257.fPort x257.fUntil (x257.fOpen ++ [r253]))).set (0 + e251.2.toNat) (SBinding.mk x258.fInside x258.fPeer x258.fPort x258.fUntil (x258.fOpen.drop ((if (wi64 ((x258.fOpen.length : Int) - 16)) > (0 : Int) then (wi64 ((x258.fOpen.length : Int) - 16)) else (0 : Int)).toNat))))))))))))))
     (.done (e251.1.set (0 + e251.2.toNat) (SBinding.mk x252.fInside x252.fPeer x252.fPort (wi64 (p9 + p4)) x252.fOpen))))
    (fun (e259 : (List SBinding)) => Ext.of .normal [(0, .ptr 1000000 0 0), (6, .ptr 6 0 0), (7, .int .i64 0), (12, .ptr 600091 (0 + e251.2.toNat) 0)] [(6, ⟨2, true, [[.str ByteArray.empty, .int .i64 0]]⟩), (1000000, ⟨9, true, [[.int .i64 p2, .int .i64 p3, .int .i64 p4, .bool p5, .str p6, .int .i64 p7, .int .i64 p8, .int .i64 p9, .ref 600091 0 e259.length]]⟩)] [BT.of 600091 tySBindingO6 7 e259 true] (by rfl))
    (fun e259 =>
     .row 15009 tySBindingO6 e259 (0 + e251.2.toNat) true fun x260 =>
     .gh 0 (.ren 600091 660000) (.done (e259, 0, p6, x260.fPort))) else bif v == 2 then .call 11009 (s147 p1) [] [] fun r261 =>
    .cnd 12 [103]
    (.br 12008 (p3 != 1)
     (.row 12011 tySBindingO6 (e251.1.set (0 + e251.2.toNat) (SBinding.mk x252.fInside x252.fPeer x252.fPort (wi64 (p9 + p4)) x252.fOpen)) (0 + e251.2.toNat) true fun x262 =>
      .call 12013 (s88 x262.fOpen r261) [] [] fun r263 =>
      .done (!r263))
     (.done false))
    (fun (c264 : Bool) => [.bool c264]) fun c264 =>
    .bind 0
    (.br 0 c264
     (.rowt 13005 tySBindingO6 (e251.1.set (0 + e251.2.toNat) (SBinding.mk x252.fInside x252.fPeer x252.fPort (wi64 (p9 + p4)) x252.fOpen)) (0 + e251.2.toNat) 6 fun x265 =>
      .re 13005 (ReW.take 600091 7 true tySBindingO6 (e251.1.set (0 + e251.2.toNat) (SBinding.mk x252.fInside x252.fPeer x252.fPort (wi64 (p9 + p4)) x252.fOpen)) (0 + e251.2.toNat) [.str x265.fInside.fHost, .int .i64 x265.fInside.fPort, .str x265.fPeer.fHost, .int .i64 x265.fPeer.fPort, .int .i64 x265.fPort, .int .i64 x265.fUntil, .sl false 2 (List.map tySAddr.c x265.fOpen)] rfl 108 2 tySAddr x265.fOpen (fun _ => rfl) (fun n => .ref 108 0 n)) (.app 13008 tySAddr x265.fOpen [r261] 24 false (by intro h; cases h) (.nst 13011 tySBindingO6 (e251.1.set (0 + e251.2.toNat) (SBinding.mk x252.fInside x252.fPeer x252.fPort (wi64 (p9 + p4)) x252.fOpen)) [.str x265.fInside.fHost, .int .i64 x265.fInside.fPort, .str x265.fPeer.fHost, .int .i64 x265.fPeer.fPort, .int .i64 x265.fPort, .int .i64 x265.fUntil, .sl false 2 (List.map tySAddr.c x265.fOpen)] (0 + e251.2.toNat) 6 (SBinding.mk x265.fInside x265.fPeer x265.fPort x265.fUntil (x265.fOpen ++ [r261])) tySAddr (x265.fOpen ++ [r261]) none (.gh 16 (.len 600091 (((e251.1.set (0 + e251.2.toNat) (SBinding.mk x252.fInside x252.fPeer x252.fPort (wi64 (p9 + p4)) x252.fOpen)).set (0 + e251.2.toNat) (SBinding.mk x265.fInside x265.fPeer x265.fPort x265.fUntil (x265.fOpen ++ [r261]))).length) [(e251.1.set (0 + e251.2.toNat) (SBinding.mk x252.fInside x252.fPeer x252.fPort (wi64 (p9 + p4)) x252.fOpen)).length] (by simp)) (.rowg 16 600091 500093 tySBindingO6 ((e251.1.set (0 + e251.2.toNat) (SBinding.mk x252.fInside x252.fPeer x252.fPort (wi64 (p9 + p4)) x252.fOpen)).set (0 + e251.2.toNat) (SBinding.mk x265.fInside x265.fPeer x265.fPort x265.fUntil (x265.fOpen ++ [r261]))) (0 + e251.2.toNat) 6 2 tySAddr (fun x266 => x266.fOpen) (fun _ => rfl) (fun _ => rfl) fun x266 =>
      .hrow 14005 tySBindingO6 ((e251.1.set (0 + e251.2.toNat) (SBinding.mk x252.fInside x252.fPeer x252.fPort (wi64 (p9 + p4)) x252.fOpen)).set (0 + e251.2.toNat) (SBinding.mk x265.fInside x265.fPeer x265.fPort x265.fUntil (x265.fOpen ++ [r261]))) [.str x266.fInside.fHost, .int .i64 x266.fInside.fPort, .str x266.fPeer.fHost, .int .i64 x266.fPeer.fPort, .int .i64 x266.fPort, .int .i64 x266.fUntil, .ref 500093 0 x266.fOpen.length] (0 + e251.2.toNat) (.hrow 14009 tySBindingO6 ((e251.1.set (0 + e251.2.toNat) (SBinding.mk x252.fInside x252.fPeer x252.fPort (wi64 (p9 + p4)) x252.fOpen)).set (0 + e251.2.toNat) (SBinding.mk x265.fInside x265.fPeer x265.fPort x265.fUntil (x265.fOpen ++ [r261]))) [.str x266.fInside.fHost, .int .i64 x266.fInside.fPort, .str x266.fPeer.fHost, .int .i64 x266.fPeer.fPort, .int .i64 x266.fPort, .int .i64 x266.fUntil, .ref 500093 0 x266.fOpen.length] (0 + e251.2.toNat) (.chk 14013 (decide (0 ≤ (if (wi64 ((x266.fOpen.length : Int) - 16)) > (0 : Int) then (wi64 ((x266.fOpen.length : Int) - 16)) else (0 : Int))) && decide ((if (wi64 ((x266.fOpen.length : Int) - 16)) > (0 : Int) then (wi64 ((x266.fOpen.length : Int) - 16)) else (0 : Int)) ≤ (x266.fOpen.length : Int))) (.nst 14016 tySBindingO6 ((e251.1.set (0 + e251.2.toNat) (SBinding.mk x252.fInside x252.fPeer x252.fPort (wi64 (p9 + p4)) x252.fOpen)).set (0 + e251.2.toNat) (SBinding.mk x265.fInside x265.fPeer x265.fPort x265.fUntil (x265.fOpen ++ [r261]))) [.str x266.fInside.fHost, .int .i64 x266.fInside.fPort, .str x266.fPeer.fHost, .int .i64 x266.fPeer.fPort, .int .i64 x266.fPort, .int .i64 x266.fUntil, .ref 500093 0 x266.fOpen.length] (0 + e251.2.toNat) 6 (SBinding.mk x266.fInside x266.fPeer x266.fPort x266.fUntil (x266.fOpen.drop ((if (wi64 ((x266.fOpen.length : Int) - 16)) > (0 : Int) then (wi64 ((x266.fOpen.length : Int) - 16)) else (0 : Int)).toNat))) tySAddr x266.fOpen (some ((if (wi64 ((x266.fOpen.length : Int) - 16)) > (0 : Int) then (wi64 ((x266.fOpen.length : Int) - 16)) else (0 : Int)).toNat)) (.gh 0 (.len 600091 ((((e251.1.set (0 + e251.2.toNat) (SBinding.mk x252.fInside x252.fPeer x252.fPort (wi64 (p9 + p4)) x252.fOpen)).set (0 + e251.2.toNat) (SBinding.mk x265.fInside x265.fPeer x265.fPort x265.fUntil (x265.fOpen ++ [r261]))).set (0 + e251.2.toNat) (SBinding.mk x266.fInside x266.fPeer x266.fPort x266.fUntil (x266.fOpen.drop ((if (wi64 ((x266.fOpen.length : Int) - 16)) > (0 : Int) then (wi64 ((x266.fOpen.length : Int) - 16)) else (0 : Int)).toNat)))).length) [((e251.1.set (0 + e251.2.toNat) (SBinding.mk x252.fInside x252.fPeer x252.fPort (wi64 (p9 + p4)) x252.fOpen)).set (0 + e251.2.toNat) (SBinding.mk x265.fInside x265.fPeer x265.fPort x265.fUntil (x265.fOpen ++ [r261]))).length] (by simp)) (.done (((e251.1.set (0 + e251.2.toNat) (SBinding.mk x252.fInside x252.fPeer x252.fPort (wi64 (p9 + p4)) x252.fOpen)).set (0 + e251.2.toNat) (SBinding.mk x265.fInside x265.fPeer x265.fPort x265.fUntil (x265.fOpen ++ [r261]))).set (0 + e251.2.toNat) (SBinding.mk x266.fInside x266.fPeer x266.fPort x266.fUntil (x266.fOpen.drop ((if (wi64 ((x266.fOpen.length : Int) - 16)) > (0 : Int) then (wi64 ((x266.fOpen.length : Int) - 16)) else (0 : Int)).toNat))))))))))))))
     (.done (e251.1.set (0 + e251.2.toNat) (SBinding.mk x252.fInside x252.fPeer x252.fPort (wi64 (p9 + p4)) x252.fOpen))))
    (fun (e267 : (List SBinding)) => Ext.of .normal [(0, .ptr 1000000 0 0), (6, .ptr 6 0 0), (7, .int .i64 0), (12, .ptr 600091 (0 + e251.2.toNat) 0)] [(6, ⟨2, true, [[.str ByteArray.empty, .int .i64 0]]⟩), (1000000, ⟨9, true, [[.int .i64 p2, .int .i64 p3, .int .i64 p4, .bool p5, .str p6, .int .i64 p7, .int .i64 p8, .int .i64 p9, .ref 600091 0 e267.length]]⟩)] [BT.of 600091 tySBindingO6 7 e267 true] (by rfl))
    (fun e267 =>
     .row 15009 tySBindingO6 e267 (0 + e251.2.toNat) true fun x268 =>
     .gh 0 (.ren 600091 660000) (.done (e267, 0, p6, x268.fPort))) else bif v == 3 then .call 11009 (s148 p1) [] [] fun r269 =>
    .cnd 12 [103]
    (.br 12008 (p3 != 1)
     (.row 12011 tySBindingO6 (e251.1.set (0 + e251.2.toNat) (SBinding.mk x252.fInside x252.fPeer x252.fPort (wi64 (p9 + p4)) x252.fOpen)) (0 + e251.2.toNat) true fun x270 =>
      .call 12013 (s88 x270.fOpen r269) [] [] fun r271 =>
      .done (!r271))
     (.done false))
    (fun (c272 : Bool) => [.bool c272]) fun c272 =>
    .bind 0
    (.br 0 c272
     (.rowt 13005 tySBindingO6 (e251.1.set (0 + e251.2.toNat) (SBinding.mk x252.fInside x252.fPeer x252.fPort (wi64 (p9 + p4)) x252.fOpen)) (0 + e251.2.toNat) 6 fun x273 =>
      .re 13005 (ReW.take 600091 7 true tySBindingO6 (e251.1.set (0 + e251.2.toNat) (SBinding.mk x252.fInside x252.fPeer x252.fPort (wi64 (p9 + p4)) x252.fOpen)) (0 + e251.2.toNat) [.str x273.fInside.fHost, .int .i64 x273.fInside.fPort, .str x273.fPeer.fHost, .int .i64 x273.fPeer.fPort, .int .i64 x273.fPort, .int .i64 x273.fUntil, .sl false 2 (List.map tySAddr.c x273.fOpen)] rfl 108 2 tySAddr x273.fOpen (fun _ => rfl) (fun n => .ref 108 0 n)) (.app 13008 tySAddr x273.fOpen [r269] 24 false (by intro h; cases h) (.nst 13011 tySBindingO6 (e251.1.set (0 + e251.2.toNat) (SBinding.mk x252.fInside x252.fPeer x252.fPort (wi64 (p9 + p4)) x252.fOpen)) [.str x273.fInside.fHost, .int .i64 x273.fInside.fPort, .str x273.fPeer.fHost, .int .i64 x273.fPeer.fPort, .int .i64 x273.fPort, .int .i64 x273.fUntil, .sl false 2 (List.map tySAddr.c x273.fOpen)] (0 + e251.2.toNat) 6 (SBinding.mk x273.fInside x273.fPeer x273.fPort x273.fUntil (x273.fOpen ++ [r269])) tySAddr (x273.fOpen ++ [r269]) none (.gh 16 (.len 600091 (((e251.1.set (0 + e251.2.toNat) (SBinding.mk x252.fInside x252.fPeer x252.fPort (wi64 (p9 + p4)) x252.fOpen)).set (0 + e251.2.toNat) (SBinding.mk x273.fInside x273.fPeer x273.fPort x273.fUntil (x273.fOpen ++ [r269]))).length) [(e251.1.set (0 + e251.2.toNat) (SBinding.mk x252.fInside x252.fPeer x252.fPort (wi64 (p9 + p4)) x252.fOpen)).length] (by simp)) (.rowg 16 600091 500094 tySBindingO6 ((e251.1.set (0 + e251.2.toNat) (SBinding.mk x252.fInside x252.fPeer x252.fPort (wi64 (p9 + p4)) x252.fOpen)).set (0 + e251.2.toNat) (SBinding.mk x273.fInside x273.fPeer x273.fPort x273.fUntil (x273.fOpen ++ [r269]))) (0 + e251.2.toNat) 6 2 tySAddr (fun x274 => x274.fOpen) (fun _ => rfl) (fun _ => rfl) fun x274 =>
      .hrow 14005 tySBindingO6 ((e251.1.set (0 + e251.2.toNat) (SBinding.mk x252.fInside x252.fPeer x252.fPort (wi64 (p9 + p4)) x252.fOpen)).set (0 + e251.2.toNat) (SBinding.mk x273.fInside x273.fPeer x273.fPort x273.fUntil (x273.fOpen ++ [r269]))) [.str x274.fInside.fHost, .int .i64 x274.fInside.fPort, .str x274.fPeer.fHost, .int .i64 x274.fPeer.fPort, .int .i64 x274.fPort, .int .i64 x274.fUntil, .ref 500094 0 x274.fOpen.length] (0 + e251.2.toNat) (.hrow 14009 tySBindingO6 ((e251.1.set (0 + e251.2.toNat) (SBinding.mk x252.fInside x252.fPeer x252.fPort (wi64 (p9 + p4)) x252.fOpen)).set (0 + e251.2.toNat) (SBinding.mk x273.fInside x273.fPeer x273.fPort x273.fUntil (x273.fOpen ++ [r269]))) [.str x274.fInside.fHost, .int .i64 x274.fInside.fPort, .str x274.fPeer.fHost, .int .i64 x274.fPeer.fPort, .int .i64 x274.fPort, .int .i64 x274.fUntil, .ref 500094 0 x274.fOpen.length] (0 + e251.2.toNat) (.chk 14013 (decide (0 ≤ (if (wi64 ((x274.fOpen.length : Int) - 16)) > (0 : Int) then (wi64 ((x274.fOpen.length : Int) - 16)) else (0 : Int))) && decide ((if (wi64 ((x274.fOpen.length : Int) - 16)) > (0 : Int) then (wi64 ((x274.fOpen.length : Int) - 16)) else (0 : Int)) ≤ (x274.fOpen.length : Int))) (.nst 14016 tySBindingO6 ((e251.1.set (0 + e251.2.toNat) (SBinding.mk x252.fInside x252.fPeer x252.fPort (wi64 (p9 + p4)) x252.fOpen)).set (0 + e251.2.toNat) (SBinding.mk x273.fInside x273.fPeer x273.fPort x273.fUntil (x273.fOpen ++ [r269]))) [.str x274.fInside.fHost, .int .i64 x274.fInside.fPort, .str x274.fPeer.fHost, .int .i64 x274.fPeer.fPort, .int .i64 x274.fPort, .int .i64 x274.fUntil, .ref 500094 0 x274.fOpen.length] (0 + e251.2.toNat) 6 (SBinding.mk x274.fInside x274.fPeer x274.fPort x274.fUntil (x274.fOpen.drop ((if (wi64 ((x274.fOpen.length : Int) - 16)) > (0 : Int) then (wi64 ((x274.fOpen.length : Int) - 16)) else (0 : Int)).toNat))) tySAddr x274.fOpen (some ((if (wi64 ((x274.fOpen.length : Int) - 16)) > (0 : Int) then (wi64 ((x274.fOpen.length : Int) - 16)) else (0 : Int)).toNat)) (.gh 0 (.len 600091 ((((e251.1.set (0 + e251.2.toNat) (SBinding.mk x252.fInside x252.fPeer x252.fPort (wi64 (p9 + p4)) x252.fOpen)).set (0 + e251.2.toNat) (SBinding.mk x273.fInside x273.fPeer x273.fPort x273.fUntil (x273.fOpen ++ [r269]))).set (0 + e251.2.toNat) (SBinding.mk x274.fInside x274.fPeer x274.fPort x274.fUntil (x274.fOpen.drop ((if (wi64 ((x274.fOpen.length : Int) - 16)) > (0 : Int) then (wi64 ((x274.fOpen.length : Int) - 16)) else (0 : Int)).toNat)))).length) [((e251.1.set (0 + e251.2.toNat) (SBinding.mk x252.fInside x252.fPeer x252.fPort (wi64 (p9 + p4)) x252.fOpen)).set (0 + e251.2.toNat) (SBinding.mk x273.fInside x273.fPeer x273.fPort x273.fUntil (x273.fOpen ++ [r269]))).length] (by simp)) (.done (((e251.1.set (0 + e251.2.toNat) (SBinding.mk x252.fInside x252.fPeer x252.fPort (wi64 (p9 + p4)) x252.fOpen)).set (0 + e251.2.toNat) (SBinding.mk x273.fInside x273.fPeer x273.fPort x273.fUntil (x273.fOpen ++ [r269]))).set (0 + e251.2.toNat) (SBinding.mk x274.fInside x274.fPeer x274.fPort x274.fUntil (x274.fOpen.drop ((if (wi64 ((x274.fOpen.length : Int) - 16)) > (0 : Int) then (wi64 ((x274.fOpen.length : Int) - 16)) else (0 : Int)).toNat))))))))))))))
     (.done (e251.1.set (0 + e251.2.toNat) (SBinding.mk x252.fInside x252.fPeer x252.fPort (wi64 (p9 + p4)) x252.fOpen))))
    (fun (e275 : (List SBinding)) => Ext.of .normal [(0, .ptr 1000000 0 0), (6, .ptr 6 0 0), (7, .int .i64 0), (12, .ptr 600091 (0 + e251.2.toNat) 0)] [(6, ⟨2, true, [[.str ByteArray.empty, .int .i64 0]]⟩), (1000000, ⟨9, true, [[.int .i64 p2, .int .i64 p3, .int .i64 p4, .bool p5, .str p6, .int .i64 p7, .int .i64 p8, .int .i64 p9, .ref 600091 0 e275.length]]⟩)] [BT.of 600091 tySBindingO6 7 e275 true] (by rfl))
    (fun e275 =>
     .row 15009 tySBindingO6 e275 (0 + e251.2.toNat) true fun x276 =>
     .gh 0 (.ren 600091 660000) (.done (e275, 0, p6, x276.fPort))) else .fail))))) else .fail)
theorem k58_1 (p0 : SAddr) (p1 : SAddr) (p2 : Int) (p3 : Int) (p4 : Int) (p5 : Bool) (p6 : ByteArray) (p7 : Int) (p8 : Int) (p9 : Int) (p10 : (List SBinding)) : FnB Tryd.prog GG [0, 1, 2, 4, 5, 6, 7, 8, 9, 10, 11, 12, 13, 27, 36, 103] Tryd.f58 [.ptr 1000000 0 0, .agg [.str p0.fHost, .int .i64 p0.fPort], .agg [.str p1.fHost, .int .i64 p1.fPort]] (Ext.of .normal (argTs [.ptr 1000000 0 0, .agg [.str p0.fHost, .int .i64 p0.fPort], .agg [.str p1.fHost, .int .i64 p1.fPort]]) [(1000000, ⟨9, true, [[.int .i64 p2, .int .i64 p3, .int .i64 p4, .bool p5, .str p6, .int .i64 p7, .int .i64 p8, .int .i64 p9, .ref 1000001 0 p10.length]]⟩)] [BT.of 1000001 tySBindingO6 7 p10 true] (by rfl)) (g58_1 p0 p1 p2 p3 p4 p5 p6 p7 p8 p9 p10) (fun (r : (List SBinding) × Int × ByteArray × Int) => .tup [.agg [.str r.2.2.1, .int .i64 r.2.2.2], .int .i64 r.2.1]) (fun (r : (List SBinding) × Int × ByteArray × Int) => Ext.of .normal [] [(1000000, ⟨9, true, [[.int .i64 p2, .int .i64 p3, .int .i64 p4, .bool p5, .str p6, .int .i64 p7, .int .i64 p8, .int .i64 p9, .ref 660000 0 r.1.length]]⟩)] [BT.of 660000 tySBindingO6 7 r.1 true] (by rfl)) := by unfold FnB; kernel_rfl
noncomputable def s58_1 (p0 : SAddr) (p1 : SAddr) (p2 : Int) (p3 : Int) (p4 : Int) (p5 : Bool) (p6 : ByteArray) (p7 : Int) (p8 : Int) (p9 : Int) (p10 : (List SBinding)) : EV.Spec Tryd.prog GG ((List SBinding) × Int × ByteArray × Int) := .ofFnB 58 [660000] mixed Tryd.func58 rfl (fun _ => rfl) (k58_1 p0 p1 p2 p3 p4 p5 p6 p7 p8 p9 p10)
noncomputable def g25 (p0 : SNat) (p1 : Int) (p2 : SAddr) (p3 : SAddr) : TT (SNat × SAddr × Int) :=
 .call2 1006 (s56_1 p0 p1 [p2, p3]) [(1000000, 19)] [(15, 500079), (600074, 500080)] (fun r137 =>
  .cnd 2 [31]
  (.br 2004 (r137 == 0)
   (.done (decide (p2.fHost = p0.fHost)))
   (.done false))
  (fun (c138 : Bool) => [.bool c138]) fun c138 =>
  .bind 0
  (.br 0 c138
   (.done 2)
   (.done r137))
  (fun (e139 : Int) => Ext.lit .normal [(6, .ptr 6 0 0), (7, .ptr 7 0 0), (8, .ptr 8 0 0), (9, .ptr 9 0 0), (10, .int .i64 0), (11, .nilp), (12, .int .i64 e139)] [(6, ⟨2, true, [[.str p2.fHost, .int .i64 p2.fPort]]⟩), (7, ⟨2, true, [[.str p3.fHost, .int .i64 p3.fPort]]⟩), (8, ⟨9, true, [[.int .i64 0, .int .i64 0, .int .i64 0, .bool false, .str ByteArray.empty, .int .i64 0, .int .i64 0, .int .i64 0, .nilsl]]⟩), (9, ⟨2, true, [[.str ByteArray.empty, .int .i64 0]]⟩)])
  (fun e139 =>
   .br 0 (e139 != 0)
   (.done ((SNat.mk 0 0 0 false ByteArray.empty 0 0 0 []), (SAddr.mk ByteArray.empty 0), e139))
   (.call 6004 (s58 p2 p3) [] [] fun r140 =>
    .br 0 (r140.2 != 0)
    (.done ((SNat.mk 0 0 0 false ByteArray.empty 0 0 0 []), (SAddr.mk ByteArray.empty 0), r140.2))
    (.fail))))
 (fun r141 =>
  .bind 0
  (.br 0 (decide (p2.fHost = p0.fHost))
   (.done 2)
   (.done 0))
  (fun (e142 : Int) => Ext.of .normal [(6, .ptr 6 0 0), (7, .ptr 7 0 0), (8, .ptr 8 0 0), (9, .ptr 9 0 0), (10, .int .i64 0), (11, .ptr 500079 0 0), (12, .int .i64 e142)] [(6, ⟨2, true, [[.str p2.fHost, .int .i64 p2.fPort]]⟩), (7, ⟨2, true, [[.str p3.fHost, .int .i64 p3.fPort]]⟩), (8, ⟨9, true, [[.int .i64 0, .int .i64 0, .int .i64 0, .bool false, .str ByteArray.empty, .int .i64 0, .int .i64 0, .int .i64 0, .nilsl]]⟩), (9, ⟨2, true, [[.str ByteArray.empty, .int .i64 0]]⟩), (500079, ⟨9, true, [[.int .i64 p0.fMapping, .int .i64 p0.fFilter, .int .i64 p0.fTimeout, .bool p0.fHairpin, .str p0.fHost, .int .i64 p0.fLow, .int .i64 p0.fHigh, .int .i64 p1, .ref 500080 0 r141.length]]⟩)] [BT.of 500080 tySBindingO6 7 r141 true] (by rfl))
  (fun e142 =>
   .br 0 (e142 != 0)
   (.done ((SNat.mk 0 0 0 false ByteArray.empty 0 0 0 []), (SAddr.mk ByteArray.empty 0), e142))
   (.call 6004 (s58_1 p2 p3 p0.fMapping p0.fFilter p0.fTimeout p0.fHairpin p0.fHost p0.fLow p0.fHigh p1 r141) [(1000000, 500079), (1000001, 500080)] [(660000, 500095)] fun r277 =>
    .br 0 (r277.2.1 != 0)
    (.done ((SNat.mk 0 0 0 false ByteArray.empty 0 0 0 []), (SAddr.mk ByteArray.empty 0), r277.2.1))
    (.gh 0 (.share (VwW.of 500095 tySBindingO6 r277.1) 1) (.done ((SNat.mk p0.fMapping p0.fFilter p0.fTimeout p0.fHairpin p0.fHost p0.fLow p0.fHigh p1 r277.1), (SAddr.mk r277.2.2.1 r277.2.2.2), 0))))))
theorem k25 (p0 : SNat) (p1 : Int) (p2 : SAddr) (p3 : SAddr) : FnD Tryd.prog GG [0, 1, 2, 3, 4, 6, 7, 8, 9, 10, 11, 12, 13, 31, 33, 45] Tryd.f25 [.agg [.int .i64 p0.fMapping, .int .i64 p0.fFilter, .int .i64 p0.fTimeout, .bool p0.fHairpin, .str p0.fHost, .int .i64 p0.fLow, .int .i64 p0.fHigh, .int .i64 p0.fNow, .sl false 7 (List.map tySBinding.c p0.fTable)], .int .i64 p1, .agg [.str p2.fHost, .int .i64 p2.fPort], .agg [.str p3.fHost, .int .i64 p3.fPort]] (g25 p0 p1 p2 p3) (fun r => .tup [.agg [.int .i64 r.1.fMapping, .int .i64 r.1.fFilter, .int .i64 r.1.fTimeout, .bool r.1.fHairpin, .str r.1.fHost, .int .i64 r.1.fLow, .int .i64 r.1.fHigh, .int .i64 r.1.fNow, .sl false 7 (List.map tySBinding.c r.1.fTable)], .agg [.str r.2.1.fHost, .int .i64 r.2.1.fPort], .int .i64 r.2.2]) := by unfold FnD; kernel_rfl
noncomputable def s25 (p0 : SNat) (p1 : Int) (p2 : SAddr) (p3 : SAddr) : EV.Spec Tryd.prog GG (SNat × SAddr × Int) := .ofFn 25 mixed Tryd.func25 (k25 p0 p1 p2 p3)
noncomputable def g85_1 (_ : SAddr) : TT (Int) :=
 .fail
theorem k85_1 (p0 : SAddr) : FnD Tryd.prog GG [0, 1, 4] Tryd.f85 [.nilp, .fn 90 [] [.snap [.str p0.fHost, .int .i64 p0.fPort]]] (g85_1 p0) (fun r => .int .i64 r) := by unfold FnD; kernel_rfl
noncomputable def s85_1 (p0 : SAddr) : EV.Spec Tryd.prog GG (Int) := .ofFn 85 mixed Tryd.func85 (k85_1 p0)
noncomputable def g62 (_ : SAddr) (p1 : SAddr) : TT (SAddr × Int) :=
 .view 1003 (s85_1 p1) [] fun r281 =>
 .br 2004 (decide (r281 < 0))
 (.tt (.done ((SAddr.mk ByteArray.empty 0), 4)))
 (.fail)
theorem k62 (p0 : SAddr) (p1 : SAddr) : FnD Tryd.prog GG [0, 1, 2, 4, 5, 6, 7, 8, 43] Tryd.f62 [.nilp, .agg [.str p0.fHost, .int .i64 p0.fPort], .agg [.str p1.fHost, .int .i64 p1.fPort]] (g62 p0 p1) (fun r => .tup [.agg [.str r.1.fHost, .int .i64 r.1.fPort], .int .i64 r.2]) := by unfold FnD; kernel_rfl
noncomputable def s62 (p0 : SAddr) (p1 : SAddr) : EV.Spec Tryd.prog GG (SAddr × Int) := .ofFn 62 mixed Tryd.func62 (k62 p0 p1)
noncomputable def g90 (p0 : SBinding) (p1 : SAddr) : TT (Bool) :=
 .done (p0.fPort == p1.fPort)
theorem k90 (p0 : SBinding) (p1 : SAddr) : FnD Tryd.prog GG [0, 1, 2, 3] Tryd.f90 [.agg [.str p0.fInside.fHost, .int .i64 p0.fInside.fPort, .str p0.fPeer.fHost, .int .i64 p0.fPeer.fPort, .int .i64 p0.fPort, .int .i64 p0.fUntil, .sl false 2 (List.map tySAddr.c p0.fOpen)], .snap [.str p1.fHost, .int .i64 p1.fPort]] (g90 p0 p1) (fun r => .bool r) := by unfold FnD; kernel_rfl
noncomputable def s90 (p0 : SBinding) (p1 : SAddr) : EV.Spec Tryd.prog GG (Bool) := .ofFn 90 mixed Tryd.func90 (k90 p0 p1)
noncomputable def g115_2 (p0 : (List SBinding)) (p1 : SAddr) : TT (Int) :=
 .bind2 1
 (.lp (fun (l288 : Int) => Ext.lit .normal [(0, .sl false 7 (List.map tySBinding.c p0)), (1, .fn 90 [] [.snap [.str p1.fHost, .int .i64 p1.fPort]]), (4, .int .i64 0), (7, .int .i64 (mlen tySBinding p0)), (8, .int .i64 l288)] [])
  (fun l288 =>
   .br 0 (decide (l288 < (mlen tySBinding p0)))
   (.row 4004 tySBinding p0 l288.toNat (decide (0 ≤ l288)) fun x289 =>
    .call 4006 (s90 x289 p1) [] [] fun r290 =>
    .br 0 r290
    (.done (.inr (.inl l288)))
    (.done (.inl (wi64 (l288 + 1)))))
   (.done (.inr (.inr ()))))
  0)
 (fun (e291 : Int) => Ext.lit .ret [(4, .int .i64 e291)] [])
 (fun (_ : Unit) => Ext.lit (.exit 0) [(4, .int .i64 0)] [])
 (fun e291 =>
  .done e291)
 (fun _ =>
  .done (-1))
theorem k115_2 (p0 : (List SBinding)) (p1 : SAddr) : FnD Tryd.prog GG [0, 1, 4, 5, 7, 8, 9, 16] Tryd.f115 [.sl false 7 (List.map tySBinding.c p0), .fn 90 [] [.snap [.str p1.fHost, .int .i64 p1.fPort]]] (g115_2 p0 p1) (fun r => .int .i64 r) := by unfold FnD; kernel_rfl
noncomputable def s115_2 (p0 : (List SBinding)) (p1 : SAddr) : EV.Spec Tryd.prog GG (Int) := .ofFn 115 mixed Tryd.func115 (k115_2 p0 p1)
noncomputable def g85_2 (p0 : SRouter) (p1 : SAddr) : TT (Int) :=
 .call 1007 (s115_2 p0.fNat.fTable p1) [] [] fun r293 =>
 .done r293
theorem k85_2 (p0 : SRouter) (p1 : SAddr) : FnD Tryd.prog GG [0, 1, 4] Tryd.f85 [.snap [.int .i64 p0.fNat.fMapping, .int .i64 p0.fNat.fFilter, .int .i64 p0.fNat.fTimeout, .bool p0.fNat.fHairpin, .str p0.fNat.fHost, .int .i64 p0.fNat.fLow, .int .i64 p0.fNat.fHigh, .int .i64 p0.fNat.fNow, .sl false 7 (List.map tySBinding.c p0.fNat.fTable)], .fn 90 [] [.snap [.str p1.fHost, .int .i64 p1.fPort]]] (g85_2 p0 p1) (fun r => .int .i64 r) := by unfold FnD; kernel_rfl
noncomputable def s85_2 (p0 : SRouter) (p1 : SAddr) : EV.Spec Tryd.prog GG (Int) := .ofFn 85 mixed Tryd.func85 (k85_2 p0 p1)
noncomputable def g62_1 (p0 : SRouter) (p1 : SAddr) (p2 : SAddr) : TT (SAddr × Int) :=
 .view 1003 (s85_2 p0 p2) [] fun r294 =>
 .cnd 2 [43]
 (.br 2004 (decide (r294 < 0))
  (.done true)
  (.br 2011 (p0.fNat.fFilter != 1)
   (.row 2017 tySBinding p0.fNat.fTable r294.toNat (decide (0 ≤ r294)) fun x295 =>
    .ceq 2025 p0.fNat.fFilter [0, 1, 2, 3] (fun v => bif v == 0 then .fail else bif v == 1 then .call 2028 (s146 p1) [] [] fun r296 =>
     .call 2029 (s88 x295.fOpen r296) [] [] fun r297 =>
     .done (!r297) else bif v == 2 then .call 2028 (s147 p1) [] [] fun r298 =>
     .call 2029 (s88 x295.fOpen r298) [] [] fun r299 =>
     .done (!r299) else bif v == 3 then .call 2028 (s148 p1) [] [] fun r300 =>
     .call 2029 (s88 x295.fOpen r300) [] [] fun r301 =>
     .done (!r301) else .fail))
   (.done false)))
 (fun (c302 : Bool) => [.bool c302]) fun c302 =>
 .br 0 c302
 (.done ((SAddr.mk ByteArray.empty 0), 4))
 (.row 4007 tySBinding p0.fNat.fTable r294.toNat (decide (0 ≤ r294)) fun x303 =>
  .done (x303.fInside, 0))
theorem k62_1 (p0 : SRouter) (p1 : SAddr) (p2 : SAddr) : FnD Tryd.prog GG [0, 1, 2, 4, 5, 6, 7, 8, 43] Tryd.f62 [.snap [.int .i64 p0.fNat.fMapping, .int .i64 p0.fNat.fFilter, .int .i64 p0.fNat.fTimeout, .bool p0.fNat.fHairpin, .str p0.fNat.fHost, .int .i64 p0.fNat.fLow, .int .i64 p0.fNat.fHigh, .int .i64 p0.fNat.fNow, .sl false 7 (List.map tySBinding.c p0.fNat.fTable)], .agg [.str p1.fHost, .int .i64 p1.fPort], .agg [.str p2.fHost, .int .i64 p2.fPort]] (g62_1 p0 p1 p2) (fun r => .tup [.agg [.str r.1.fHost, .int .i64 r.1.fPort], .int .i64 r.2]) := by unfold FnD; kernel_rfl
noncomputable def s62_1 (p0 : SRouter) (p1 : SAddr) (p2 : SAddr) : EV.Spec Tryd.prog GG (SAddr × Int) := .ofFn 62 mixed Tryd.func62 (k62_1 p0 p1 p2)
noncomputable def g27 (p0 : SNat) (p1 : Int) (p2 : SAddr) (p3 : SAddr) : TT (SNat × SAddr × Int) :=
 .call2 1006 (s56_1 p0 p1 [p2, p3]) [(1000000, 19)] [(15, 500096), (600074, 500097)] (fun r278 =>
  .cnd 2 [31]
  (.br 2004 (r278 == 0)
   (.done (!decide (p3.fHost = p0.fHost)))
   (.done false))
  (fun (c279 : Bool) => [.bool c279]) fun c279 =>
  .bind 0
  (.br 0 c279
   (.done 2)
   (.done r278))
  (fun (e280 : Int) => Ext.lit .normal [(6, .ptr 6 0 0), (7, .ptr 7 0 0), (8, .ptr 8 0 0), (9, .ptr 9 0 0), (10, .int .i64 0), (11, .nilp), (12, .int .i64 e280)] [(6, ⟨2, true, [[.str p2.fHost, .int .i64 p2.fPort]]⟩), (7, ⟨2, true, [[.str p3.fHost, .int .i64 p3.fPort]]⟩), (8, ⟨9, true, [[.int .i64 0, .int .i64 0, .int .i64 0, .bool false, .str ByteArray.empty, .int .i64 0, .int .i64 0, .int .i64 0, .nilsl]]⟩), (9, ⟨2, true, [[.str ByteArray.empty, .int .i64 0]]⟩)])
  (fun e280 =>
   .br 0 (e280 != 0)
   (.done ((SNat.mk 0 0 0 false ByteArray.empty 0 0 0 []), (SAddr.mk ByteArray.empty 0), e280))
   (.call 6004 (s62 p2 p3) [] [] fun r282 =>
    .br 0 (r282.2 != 0)
    (.done ((SNat.mk 0 0 0 false ByteArray.empty 0 0 0 []), (SAddr.mk ByteArray.empty 0), r282.2))
    (.fail))))
 (fun r283 =>
  .bind 0
  (.br 0 (!decide (p3.fHost = p0.fHost))
   (.done 2)
   (.done 0))
  (fun (e284 : Int) => Ext.of .normal [(6, .ptr 6 0 0), (7, .ptr 7 0 0), (8, .ptr 8 0 0), (9, .ptr 9 0 0), (10, .int .i64 0), (11, .ptr 500096 0 0), (12, .int .i64 e284)] [(6, ⟨2, true, [[.str p2.fHost, .int .i64 p2.fPort]]⟩), (7, ⟨2, true, [[.str p3.fHost, .int .i64 p3.fPort]]⟩), (8, ⟨9, true, [[.int .i64 0, .int .i64 0, .int .i64 0, .bool false, .str ByteArray.empty, .int .i64 0, .int .i64 0, .int .i64 0, .nilsl]]⟩), (9, ⟨2, true, [[.str ByteArray.empty, .int .i64 0]]⟩), (500096, ⟨9, true, [[.int .i64 p0.fMapping, .int .i64 p0.fFilter, .int .i64 p0.fTimeout, .bool p0.fHairpin, .str p0.fHost, .int .i64 p0.fLow, .int .i64 p0.fHigh, .int .i64 p1, .ref 500097 0 r283.length]]⟩)] [BT.of 500097 tySBindingO6 7 r283 true] (by rfl))
  (fun e284 =>
   .br 0 (e284 != 0)
   (.done ((SNat.mk 0 0 0 false ByteArray.empty 0 0 0 []), (SAddr.mk ByteArray.empty 0), e284))
   (.view 6004 (s62_1 (SRouter.mk (SNat.mk p0.fMapping p0.fFilter p0.fTimeout p0.fHairpin p0.fHost p0.fLow p0.fHigh p1 r283)) p2 p3) [(VwW.of 500097 tySBindingO6 r283)] fun r304 =>
    .br 0 (r304.2 != 0)
    (.done ((SNat.mk 0 0 0 false ByteArray.empty 0 0 0 []), (SAddr.mk ByteArray.empty 0), r304.2))
    (.gh 0 (.share (VwW.of 500097 tySBindingO6 r283) 1) (.done ((SNat.mk p0.fMapping p0.fFilter p0.fTimeout p0.fHairpin p0.fHost p0.fLow p0.fHigh p1 r283), r304.1, 0))))))
theorem k27 (p0 : SNat) (p1 : Int) (p2 : SAddr) (p3 : SAddr) : FnD Tryd.prog GG [0, 1, 2, 3, 4, 6, 7, 8, 9, 10, 11, 12, 13, 31, 33, 45] Tryd.f27 [.agg [.int .i64 p0.fMapping, .int .i64 p0.fFilter, .int .i64 p0.fTimeout, .bool p0.fHairpin, .str p0.fHost, .int .i64 p0.fLow, .int .i64 p0.fHigh, .int .i64 p0.fNow, .sl false 7 (List.map tySBinding.c p0.fTable)], .int .i64 p1, .agg [.str p2.fHost, .int .i64 p2.fPort], .agg [.str p3.fHost, .int .i64 p3.fPort]] (g27 p0 p1 p2 p3) (fun r => .tup [.agg [.int .i64 r.1.fMapping, .int .i64 r.1.fFilter, .int .i64 r.1.fTimeout, .bool r.1.fHairpin, .str r.1.fHost, .int .i64 r.1.fLow, .int .i64 r.1.fHigh, .int .i64 r.1.fNow, .sl false 7 (List.map tySBinding.c r.1.fTable)], .agg [.str r.2.1.fHost, .int .i64 r.2.1.fPort], .int .i64 r.2.2]) := by unfold FnD; kernel_rfl
noncomputable def s27 (p0 : SNat) (p1 : Int) (p2 : SAddr) (p3 : SAddr) : EV.Spec Tryd.prog GG (SNat × SAddr × Int) := .ofFn 27 mixed Tryd.func27 (k27 p0 p1 p2 p3)
noncomputable def g19 (p0 : SNat) : TT (Int) :=
 .view 2002 (s55 (SRouter.mk p0)) [] fun r307 =>
 .br 0 (!r307)
 (.done 130)
 (.done 0)
theorem k19 (p0 : SNat) : FnD Tryd.prog GG [0, 1, 2, 3, 9] Tryd.f19 [.agg [.int .i64 p0.fMapping, .int .i64 p0.fFilter, .int .i64 p0.fTimeout, .bool p0.fHairpin, .str p0.fHost, .int .i64 p0.fLow, .int .i64 p0.fHigh, .int .i64 p0.fNow, .sl false 7 (List.map tySBinding.c p0.fTable)]] (g19 p0) (fun r => .int .i64 r) := by unfold FnD; kernel_rfl
noncomputable def s19 (p0 : SNat) : EV.Spec Tryd.prog GG (Int) := .ofFn 19 mixed Tryd.func19 (k19 p0)
end Go.Proofs.YtdiagiflihpidaaDoor
