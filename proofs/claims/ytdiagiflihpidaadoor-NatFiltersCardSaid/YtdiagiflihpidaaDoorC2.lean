/- The port for an address inside: a range over a function, put together by hand. -/
import Derived.Test.YtdiagiflihpidaaDoorA6
import Derived.Test.YtdiagiflihpidaaDoorC1
import Derived.KernelRfl

namespace Go.Proofs.YtdiagiflihpidaaDoor
open Go Go.EV
set_option maxRecDepth 100000

def natC (p0 : SNat) : List V := [.int .i64 p0.fMapping, .int .i64 p0.fFilter, .int .i64 p0.fTimeout, .bool p0.fHairpin, .str p0.fHost, .int .i64 p0.fLow, .int .i64 p0.fHigh, .int .i64 p0.fNow, .sl false 7 (List.map tySBinding.c p0.fTable)]

def cRange : Code → Code
  | .seq _ (.scope (.seq _ (.seq (.seq _ (.block _ c)) _))) => c
  | _ => .skip
def rAssign : Code → Code
  | .rangeFunc _ _ a _ => a
  | _ => .skip
def rBody : Code → Code
  | .rangeFunc _ _ _ b => b
  | _ => .skip

-- a round
def frTs : List (Nat × V) := [(2, .ptr 1000002 0 0), (4, .ptr 1000004 0 0), (5, .ptr 1000005 0 0), (11, .fn 127 [] [.ptr 1000031 0 0, .ptr 1000032 0 0])]
def frBs (p0 : SNat) (p : Int) (ok : Bool) : List (Nat × Blk) := [(1000002, ⟨1, true, [[.snap (natC p0)]]⟩), (1000004, ⟨1, true, [[.int .i64 p]]⟩), (1000005, ⟨1, true, [[.bool ok]]⟩)]

def gRound (p0 : SNat) (p : Int) : TT Bool :=
  .bind2 2
  (.lp (fun (i : Int) => Ext.lit .normal (frTs ++ [(6, .int .i64 p), (17, .sl false 7 (List.map tySBinding.c p0.fTable)), (18, .int .i64 (mlen tySBinding p0.fTable)), (19, .int .i64 i)]) (frBs p0 0 false))
    (fun i =>
      .br 0 (decide (i < mlen tySBinding p0.fTable))
      (.row 5001 tySBinding p0.fTable i.toNat (decide (0 ≤ i)) fun x =>
        .br 0 (x.fPort == p)
        (.done (.inr (.inl ())))
        (.done (.inl (wi64 (i + 1)))))
      (.done (.inr (.inr ()))))
    0)
  (fun (_ : Unit) => Ext.lit (.exit 1) [] (frBs p0 0 false))
  (fun (_ : Unit) => Ext.lit (.exit 2) (frTs ++ [(6, .int .i64 p)]) (frBs p0 0 false))
  (fun _ => .done true)
  (fun _ => .done false)

def xRound (p0 : SNat) (p : Int) : Ext := Ext.lit .normal (frTs ++ [(6, .int .i64 p)]) (frBs p0 0 false)
def eRound (p0 : SNat) (p : Int) : Bool → Ext := fun r => bif r then Ext.lit .normal [] (frBs p0 0 false) else Ext.lit .ret [] (frBs p0 p true)

theorem kRound (p0 : SNat) (p : Int) : Piece Tryd.prog GG [2, 4, 5, 6, 8, 17, 18, 19, 20, 26] 29 (rBody (cRange (Tryd.f87.body.getD .skip))) (xRound p0 p) (gRound p0 p) (eRound p0 p) := by
  unfold Piece; kernel_rfl

def xAssign (p0 : SNat) (p : Int) : Ext := Ext.lit .normal ((12, .int .i64 p) :: frTs) (frBs p0 0 false)
theorem kAssign (p0 : SNat) (p : Int) : Piece Tryd.prog GG [2, 4, 5, 6, 11] 29 (rAssign (cRange (Tryd.f87.body.getD .skip))) (xAssign p0 p) (.done () : TT Unit) (fun _ => xRound p0 p) := by
  unfold Piece; kernel_rfl

def rOut (p0 : SNat) (p : Int) (r : Bool) (e : Exit) (b : Nat → Option Blk) : Prop :=
  bif r then e = .normal ∧ b = ofL (frBs p0 0 false) else e = .ret ∧ b = ofL (frBs p0 p true)

theorem round87 (p0 : SNat) (p : Int) {r : Bool} (hr : (gRound p0 p).run = some r) :
    RoundT Tryd.prog GG 29 (tOf frTs) [12] (rAssign (cRange (Tryd.f87.body.getD .skip))) (rBody (cRange (Tryd.f87.body.getD .skip))) (ofL (frBs p0 0 false)) [.int .i64 p] (rOut p0 p r) := by
  refine ⟨((xRound p0 p).D 29).st, ?_, ?_⟩
  · have h := (kAssign p0 p).tv mixed (r := ()) rfl (by rfl)
    have e : ((xAssign p0 p).D 29).st = setP (susp 29 (tOf frTs) (ofL (frBs p0 0 false))) ([12].zip [.int .i64 p]) := by
      rw [ext_susp (by rfl)]
      exact (setP_susp 29 frTs _ 12 (.int .i64 p)).symm
    rw [e] at h
    exact h
  · refine ((kRound p0 p).tv mixed hr (by cases r <;> rfl)).mono fun e s hg => ?_
    obtain ⟨rfl, g⟩ := hg
    cases r with
    | true => exact ⟨ofL (frBs p0 0 false), 29, ⟨rfl, rfl⟩, by rw [ext_susp (by rfl)] at g; exact g⟩
    | false => exact ⟨ofL (frBs p0 p true), 29, ⟨rfl, rfl⟩, by rw [ext_susp (by rfl)] at g; exact g⟩

-- the iterator
def itBs (p0 : SNat) (cur : Int) : List (Nat × Blk) := [(1000031, ⟨1, true, [[.int .i64 cur]]⟩), (1000032, ⟨1, true, [[.snap (natC p0)]]⟩)]
def itArgs (l : Nat) : List V := [.yld l, .ptr 1000031 0 0, .ptr 1000032 0 0]
def itSize (p0 : SNat) : Int := wi64 ((wi64 (p0.fHigh - p0.fLow)) + 1)
def xI0 (p0 : SNat) (l : Nat) (cur : Int) : Ext := Ext.lit .normal (argTs (itArgs l)) (itBs p0 cur)
def xI (p0 : SNat) (l : Nat) (cur k : Int) : Ext := Ext.lit .normal (argTs (itArgs l) ++ [(36, .int .i64 (itSize p0)), (37, .int .i64 k)]) (itBs p0 cur)
def xI3 (p0 : SNat) (l : Nat) (cur k : Int) : Ext := Ext.lit .normal (argTs (itArgs l) ++ [(36, .int .i64 (itSize p0)), (37, .int .i64 k), (38, .bool (decide (k < itSize p0)))]) (itBs p0 cur)

noncomputable def c127 : Code := Tryd.f127.body.getD .skip
def cL : Code → Code
  | .seq x _ => x
  | _ => .skip
def cR : Code → Code
  | .seq _ y => y
  | _ => .skip
def cB : Code → Code
  | .block _ y => y
  | .loop y => y
  | _ => .skip

def gI0 (p0 : SNat) (own : Int) : TT Int :=
  .cnd 0 [19]
  (.br 9 (decide (own < p0.fLow)) (.done true) (.done (decide (p0.fHigh < own))))
  (fun (c : Bool) => [.bool c]) fun c =>
  .br 0 c (.done p0.fLow) (.done own)
theorem kI0 (p0 : SNat) (l : Nat) (own : Int) : Piece Tryd.prog GG [0, 1, 2, 19] 58 (cL c127) (xI0 p0 l own) (gI0 p0 own) (fun c => xI0 p0 l c) := by
  unfold Piece; kernel_rfl
theorem kI1 (p0 : SNat) (l : Nat) (cur : Int) : Piece Tryd.prog GG [0, 1, 2, 36, 37] 58 (cL (cR c127)) (xI0 p0 l cur) (.done () : TT Unit) (fun _ => xI p0 l cur 0) := by
  unfold Piece; kernel_rfl
noncomputable def cLp : Code := cB (cB (cR (cR c127)))
theorem kI3 (p0 : SNat) (l : Nat) (cur k : Int) : Piece Tryd.prog GG [0, 1, 2, 36, 37, 38] 58 (cL cLp) (xI p0 l cur k) (.done () : TT Unit) (fun _ => xI3 p0 l cur k) := by
  unfold Piece; kernel_rfl
def gI5 (p0 : SNat) (cur : Int) : TT Int :=
  .br 0 (decide (p0.fHigh < wi64 (cur + 1))) (.done p0.fLow) (.done (wi64 (cur + 1)))
theorem kI5 (p0 : SNat) (l : Nat) (cur k : Int) : Piece Tryd.prog GG [0, 1, 2, 36, 37, 51] 58 (cR (cB (cL (cR (cR cLp))))) (xI p0 l cur k) (gI5 p0 cur) (fun c => xI p0 l c k) := by
  unfold Piece; kernel_rfl
theorem kI8 (p0 : SNat) (l : Nat) (cur k : Int) : Piece Tryd.prog GG [0, 1, 2, 36, 37] 58 (cR (cR (cR cLp))) (xI p0 l cur k) (.done () : TT Unit) (fun _ => xI p0 l cur (wi64 (k + 1))) := by
  unfold Piece; kernel_rfl

-- the model
def itStep (p0 : SNat) (y : Int × Int) : Option ((Int × Int) ⊕ Option Int) :=
  bif decide (y.2 < itSize p0) then
    match (gRound p0 y.1).run with
    | none => none
    | some r => bif r then (match (gI5 p0 y.1).run with | some c => some (.inl (c, wi64 (y.2 + 1))) | none => none) else some (.inr (some y.1))
  else some (.inr none)

def freeM (p0 : SNat) (own : Int) : Option (Option Int) :=
  match (gI0 p0 own).run with
  | none => none
  | some c => iter (itStep p0) FUEL (c, 0)

def outM (p0 : SNat) (r : Option Int) (e : Exit) (b : Nat → Option Blk) : Prop :=
  match r with
  | none => e = .normal ∧ b = ofL (frBs p0 0 false)
  | some p => e = .ret ∧ b = ofL (frBs p0 p true)

noncomputable def fL : YL := ⟨29, tOf frTs, #[12], rAssign (cRange (Tryd.f87.body.getD .skip)), rBody (cRange (Tryd.f87.body.getD .skip))⟩
def rOps : Code → Array Oper
  | .region _ o _ => o
  | _ => #[]
noncomputable def ops4 : Array Oper := rOps (cL (cL (cB (cL (cR (cR cLp))))))

theorem e1 : c127 = .seq (cL c127) (cR c127) := by kernel_rfl
theorem e2 : cR c127 = .seq (cL (cR c127)) (.block 0 (.loop cLp)) := by kernel_rfl
theorem e4 : cLp = .seq (cL cLp) (.seq (.cond (.tmp 38) .skip (.exit 0)) (.seq (.block 1 (.seq (.seq (.region 4 ops4 false) (.cond (.tmp 42) .ret .skip)) (cR (cB (cL (cR (cR cLp))))))) (cR (cR (cR cLp))))) := by kernel_rfl

theorem iter_succ {σ ε : Type} (f : σ → Option (σ ⊕ ε)) (m : Nat) (x : σ) : iter f (m + 1) x = (match f x with | none => none | some (.inl z) => iter f m z | some (.inr e) => some e) := by
  cases h : f x with
  | none => simp only [iter, h]
  | some y => cases y <;> simp only [iter, h]

theorem Gst.same {G : Nat → Option (List V)} (st : St) : Gst G st st := fun γ _ w hs => ⟨γ, hs, .refl γ w, .refl hs.u⟩

theorem iter127 (p0 : SNat) (own : Int) {r : Option Int} (h : freeM p0 own = some r) :
    IterT Tryd.prog GG c127 58 itArgs (ofL (itBs p0 own)) fL.n fL.t fL.ps fL.assign fL.body (ofL (frBs p0 0 false)) (outM p0 r) := by
  refine IterT.of fun l => ?_
  unfold freeM at h
  split at h
  · simp at h
  rename_i c hc
  have e0 : entry 58 (itArgs l) (ofL (itBs p0 own)) = ((xI0 p0 l own).D 58).st := (entry_ext (x := xI0 p0 l own) (by rfl) (by rfl) 58).symm
  rw [e0, e1]
  refine YT.seq (YT.piece (kI0 p0 l own) mixed hc (by rfl) fun s g => ?_)
  show YT _ _ _ _ _ _ _
  refine YT.gst g ?_
  rw [e2]
  refine YT.seq (YT.piece (kI1 p0 l c) mixed (r := ()) rfl (by rfl) fun s g => ?_)
  show YT _ _ _ _ _ _ _
  refine YT.gst g (YT.block ?_)
  refine YT.loop (fun m s => s.x = .normal ∧ s.b = ofL (frBs p0 0 false) ∧ ∃ y : Int × Int, Gst GG s.st ((xI p0 l y.1 y.2).D 58).st ∧ iter (itStep p0) m y = some r) (fun m s hI => ?_) (n := FUEL) ⟨rfl, rfl, (c, 0), Gst.same _, h⟩
  obtain ⟨x, b, st⟩ := s
  obtain ⟨rfl, rfl, ⟨cur, k⟩, g, hit⟩ := hI
  refine YT.gst g ?_
  cases m with
  | zero => simp [iter] at hit
  | succ m =>
    rw [iter_succ] at hit
    rw [e4]
    refine YT.seq (YT.piece (kI3 p0 l cur k) mixed (r := ()) rfl (by rfl) fun s g => ?_)
    show YT _ _ _ _ _ _ _
    refine YT.gst g ?_
    cases hk : decide (k < itSize p0) with
    | false =>
      have hs : itStep p0 (cur, k) = some (.inr none) := by
        show (bif decide (k < itSize p0) then _ else _) = _
        rw [hk]; rfl
      rw [hs] at hit
      obtain rfl : none = r := Option.some.inj hit
      refine YT.seq (YT.cond (b := false) ?_ (YT.exit ?_))
      · show some (V.bool (decide (k < itSize p0))) = _
        rw [hk]
      · exact ⟨.inl rfl, rfl, rfl⟩
    | true =>
      have hs : itStep p0 (cur, k) = (match (gRound p0 cur).run with | none => none | some r => bif r then (match (gI5 p0 cur).run with | some c => some (.inl (c, wi64 (k + 1))) | none => none) else some (.inr (some cur))) := by
        show (bif decide (k < itSize p0) then _ else _) = _
        rw [hk]; rfl
      rw [hs] at hit
      cases hr : (gRound p0 cur).run with
      | none => rw [hr] at hit; simp at hit
      | some taken =>
        rw [hr] at hit
        refine YT.seq (YT.cond (b := true) ?_ (YT.skip ?_))
        · show some (V.bool (decide (k < itSize p0))) = _
          rw [hk]
        show YT _ _ _ _ _ _ _
        refine YT.seq (YT.block (YT.seq (YT.seq (YT.region ?_))))
        show YTops _ _ _ _ _ [0, 1, 2, 3] _ _
        refine YTops.step rfl (YTops.step rfl (YTops.yield (hi := rfl) rfl rfl rfl rfl rfl rfl ?_ ?_ rfl rfl (round87 p0 cur hr) ?_ ?_))
        · exact fun i => tOf_ok (by rfl) i
        · intro p hp
          have : p ∈ [12] := hp
          simp at this
          subst this
          exact (by decide : 12 < 29)
        · intro e b' h
          unfold rOut at h
          cases taken with
          | true => exact .inl h.1
          | false => exact .inr (.inl h.1)
        · intro e b' h
          unfold rOut at h
          cases taken with
          | true =>
            obtain ⟨rfl, rfl⟩ := h
            simp only [cond_true] at hit
            cases h5 : (gI5 p0 cur).run with
            | none => rw [h5] at hit; simp at hit
            | some c5 =>
              rw [h5] at hit
              refine YTops.step rfl (YTops.nil ?_)
              show YT _ _ _ _ _ _ _
              refine YT.cond (b := false) rfl (YT.skip ?_)
              show YT _ _ _ _ _ _ _
              refine YT.gst (st' := ((xI p0 l cur k).D 58).st) ?_ (YT.piece (kI5 p0 l cur k) mixed h5 (by rfl) fun s g => ?_)
              · refine Gst.forget (forget_to (n := 58) (ts := (xI p0 l cur k).ts) (bs := (xI p0 l cur k).bs) (us := (xI p0 l cur k).us) rfl rfl (by rfl) rfl (by rfl) fun q hq r hr c hc => ?_)
                have : ((xI p0 l cur k).bs.all fun q => q.2.rows.all fun r => r.all fun c => okV (stOf 58 (xI p0 l cur k).ts (xI p0 l cur k).bs (xI p0 l cur k).us).u c) = true := by rfl
                exact List.all_eq_true.1 (List.all_eq_true.1 (List.all_eq_true.1 this q hq) r hr) c hc
              · show YT _ _ _ _ _ _ _
                refine YT.gst g (YT.piece (kI8 p0 l c5 k) mixed (r := ()) rfl (by rfl) fun s g => ?_)
                exact ⟨m, Nat.lt_succ_self m, rfl, rfl, (c5, wi64 (k + 1)), g, hit⟩
          | false =>
            obtain ⟨rfl, rfl⟩ := h
            simp only [cond_false, Option.some.injEq] at hit
            subst hit
            refine YTops.step rfl (YTops.nil ?_)
            show YT _ _ _ _ _ _ _
            refine YT.cond (b := true) rfl (YT.ret ?_)
            exact ⟨.inr rfl, rfl, rfl⟩


-- the function
noncomputable def c87 : Code := Tryd.f87.body.getD .skip
def cS : Code → Code
  | .scope y => y
  | _ => .skip
def fTs : List (Nat × V) := [(2, .ptr 2 0 0), (4, .ptr 4 0 0), (5, .ptr 5 0 0)]
def fBs (p0 : SRouter) (p : Int) (ok : Bool) : List (Nat × Blk) := [(2, ⟨1, true, [[.snap (natC p0.fNat)]]⟩), (4, ⟨1, true, [[.int .i64 p]]⟩), (5, ⟨1, true, [[.bool ok]]⟩)]
def xF (p0 : SRouter) (own : Int) : Ext := Ext.lit .normal (argTs [.snap (natC p0.fNat), .int .i64 own]) []
def xF0 (p0 : SRouter) (own : Int) : Ext := Ext.lit .normal ((1, .int .i64 own) :: fTs) (fBs p0 0 false)
def xF1 (p0 : SRouter) (own : Int) : Ext := Ext.lit .normal (fTs ++ [(11, .fn 127 [] [.ptr 31 0 0, .ptr 32 0 0])]) (fBs p0 0 false ++ [(31, ⟨1, true, [[.int .i64 own]]⟩), (32, ⟨1, true, [[.snap (natC p0.fNat)]]⟩)])
def xF9 (p0 : SRouter) (e : Exit) (p : Int) (ok : Bool) : Ext := Ext.lit e fTs (fBs p0 p ok)

theorem kF0 (p0 : SRouter) (own : Int) : Piece Tryd.prog GG [1, 2, 4, 5] 29 (cL c87) (xF p0 own) (.done () : TT Unit) (fun _ => xF0 p0 own) := by
  unfold Piece; kernel_rfl
theorem kF1 (p0 : SRouter) (own : Int) : Piece Tryd.prog GG [1, 2, 4, 5, 11] 29 (cL (cL (cR (cS (cR c87))))) (xF0 p0 own) (.call 1003 (s116 p0 own) [] [(2, 32), (3, 31)] fun _ => .done () : TT Unit) (fun _ => xF1 p0 own) := by
  unfold Piece; kernel_rfl
theorem kF9 (p0 : SRouter) : Piece Tryd.prog GG [2, 4, 5] 29 (cR (cR (cS (cR c87)))) (xF9 p0 .normal 0 false) (.done () : TT Unit) (fun _ => xF9 p0 .ret 0 false) := by
  unfold Piece; kernel_rfl

theorem e87 : c87 = .seq (cL c87) (.scope (.seq (.label 0) (.seq (.seq (cL (cL (cR (cS (cR c87))))) (.block 0 (.rangeFunc (.tmp 11) #[12] (rAssign (cRange (Tryd.f87.body.getD .skip))) (rBody (cRange (Tryd.f87.body.getD .skip)))))) (cR (cR (cS (cR c87))))))) := by kernel_rfl
theorem h127 : Tryd.f127.body = some c127 := by kernel_rfl
theorem h127b : (Tryd.f127.name == "runtime.NumGoroutine") = false := by kernel_rfl
theorem h127c : Tryd.f127.results = #[] := by kernel_rfl
theorem h127d : max Tryd.f127.ntmps (1 + 2) = 58 := by kernel_rfl

def lend87 (b : Nat) : Bool := b == 1000031 || b == 1000032

theorem bs87 (p0 : SRouter) (own : Int) : shB ((xF1 p0 own).D 29).st.b = ofL (frBs p0.fNat 0 false ++ itBs p0.fNat own) := by
  have : ((xF1 p0 own).D 29).st.b = ofL (xF1 p0 own).bs := rfl
  rw [this, shB_ofL]
  have : ((xF1 p0 own).bs.map fun p => (sh p.1, p.2.ren sh)) = frBs p0.fNat 0 false ++ itBs p0.fNat own := by kernel_rfl
  rw [this]

theorem fin87 (p0 : SRouter) (p : Int) (ok : Bool) : shB (ofL (fBs p0 p ok)) = ofL (frBs p0.fNat p ok) := by
  rw [shB_ofL]
  have : ((fBs p0 p ok).map fun p => (sh p.1, p.2.ren sh)) = frBs p0.fNat p ok := by kernel_rfl
  rw [this]

theorem find_b {l : List (Nat × Blk)} {b : Nat} {k : Blk} (h : ofL l b = some k) : ∃ q, q ∈ l ∧ q.1 = b ∧ q.2 = k := by
  unfold ofL at h
  split at h
  · rename_i q hq
    exact ⟨q, List.mem_of_find?_eq_some hq, by simpa using List.find?_some hq, Option.some.inj h⟩
  · simp at h

theorem known_of {n : Nat} {ts : List (Nat × V)} {bs : List (Nat × Blk)} {us : List Nat} (ht : (ts.all fun p => (refsV p.2).all (stOf n ts bs us).u) = true) (hb : (bs.all fun p => (stOf n ts bs us).u p.1 && (refsL p.2.rows.flatten).all (stOf n ts bs us).u) = true) : (stOf n ts bs us).known where
  t := fun i b hm => by
    have hm' : b ∈ refsV (tOf ts i) := hm
    unfold tOf at hm'
    cases hf : ts.find? (fun p => p.1 == i) with
    | none => rw [hf] at hm'; simp [refsV] at hm'
    | some p => rw [hf] at hm'; exact List.all_eq_true.1 (List.all_eq_true.1 ht p (List.mem_of_find?_eq_some hf)) b hm'
  b := fun i k hk => by
    obtain ⟨q, h1, rfl, rfl⟩ := find_b (show ofL bs i = some k from hk)
    have := List.all_eq_true.1 hb q h1
    simp only [Bool.and_eq_true] at this
    exact ⟨this.1, fun b hm => List.all_eq_true.1 this.2 b hm⟩

theorem loop87 (p0 : SRouter) (own : Int) {r : Option Int} (h : freeM p0.fNat own = some r) :
    TO Tryd.prog GG (.rangeFunc (.tmp 11) #[12] (rAssign (cRange (Tryd.f87.body.getD .skip))) (rBody (cRange (Tryd.f87.body.getD .skip)))) ((xF1 p0 own).D 29).st
      (fun e s => match r with | none => e = .normal ∧ Gst GG s ((xF9 p0 .normal 0 false).D 29).st | some p => e = .ret ∧ Gst GG s ((xF9 p0 .ret p true).D 29).st) := by
  have ht : (fun i => renV sh (((xF1 p0 own).D 29).st.t i)) = tOf frTs := by
    have : ((xF1 p0 own).D 29).st.t = tOf (xF1 p0 own).ts := rfl
    rw [this, tOf_shift]
    have : ((xF1 p0 own).ts.map fun p => (p.1, renV sh p.2)) = frTs := by kernel_rfl
    rw [this]
  have hb1 : (fun b => if lend87 b then shB ((xF1 p0 own).D 29).st.b b else none) = ofL (itBs p0.fNat own) := by
    rw [bs87, ofL_filter]; rfl
  have hb2 : (fun b => if lend87 b then none else shB ((xF1 p0 own).D 29).st.b b) = ofL (frBs p0.fNat 0 false) := by
    rw [bs87, ofL_filter2]; rfl
  have it := iter127 p0.fNat own h
  refine TO.range (lend := lend87) (f := 127) (fi := Tryd.f127) (c := c127) (caps := [.ptr 1000031 0 0, .ptr 1000032 0 0]) (R := outM p0.fNat r) ?_ (by rfl) Tryd.func127 h127 h127b h127c ?_ ?_ ?_ ?_
  · show some ((fun i => renV sh (((xF1 p0 own).D 29).st.t i)) 11) = _
    rw [ht]; rfl
  · intro b k hk
    exact ((known_of (n := 29) (ts := (xF1 p0 own).ts) (bs := (xF1 p0 own).bs) (us := (xF1 p0 own).us) (by rfl) (by rfl)).b b k hk).1
  · intro b k _ hk
    obtain ⟨q, h1, rfl, rfl⟩ := find_b (show ofL (xF1 p0 own).bs b = some k from hk)
    have : ((xF1 p0 own).bs.all fun q => q.2.excl && q.2.rows.all fun r => r.all fun x => !x.isOwn) = true := by rfl
    have := List.all_eq_true.1 this q h1
    simp only [Bool.and_eq_true] at this
    exact ⟨this.1, fun r hr x hx => by simpa using List.all_eq_true.1 (List.all_eq_true.1 this.2 r hr) x hx⟩
  · rw [ht, hb1, hb2]
    have e : max Tryd.f127.ntmps (1 + [V.ptr 1000031 0 0, V.ptr 1000032 0 0].length) = 58 := h127d
    rw [e]
    exact it
  · intro e b' ho
    have key : ∀ (p : Int) (ok : Bool) (e : Exit), (stOf 29 (xF1 p0 own).ts (fBs p0 p ok) (xF1 p0 own).us).known ∧ Gst GG (stOf 29 (xF1 p0 own).ts (fBs p0 p ok) (xF1 p0 own).us) ((xF9 p0 e p ok).D 29).st := fun p ok e =>
      ⟨known_of (by rfl) (by rfl), Gst.forget (forget_to (n := 29) (ts := fTs) (bs := fBs p0 p ok) (us := (xF9 p0 e p ok).us) rfl rfl (by rfl) rfl (by rfl) fun q hq r hr c hc => by
        have : ((fBs p0 p ok).all fun q => q.2.rows.all fun r => r.all fun c => okV (stOf 29 fTs (fBs p0 p ok) (xF9 p0 e p ok).us).u c) = true := by rfl
        exact List.all_eq_true.1 (List.all_eq_true.1 (List.all_eq_true.1 this q hq) r hr) c hc)⟩
    unfold outM at ho
    cases r with
    | none =>
      obtain ⟨rfl, rfl⟩ := ho
      exact ⟨.inl rfl, ofL (fBs p0 0 false), (fin87 p0 0 false).symm, (key 0 false .normal).1, rfl, (key 0 false .normal).2⟩
    | some p =>
      obtain ⟨rfl, rfl⟩ := ho
      exact ⟨.inr (.inl rfl), ofL (fBs p0 p true), (fin87 p0 p true).symm, (key p true .ret).1, rfl, (key p true .ret).2⟩

theorem free87 (p0 : SRouter) (own : Int) {r : Option Int} (h : freeM p0.fNat own = some r) : CallC Tryd.prog GG 87 [.snap (natC p0.fNat), .int .i64 own] (ofL []) (.tup [.int .i64 (r.getD 0), .bool r.isSome]) (ofL []) := by
  have hb : Tryd.f87.body = some c87 := by kernel_rfl
  refine callC_of_TO (n := 29) Tryd.func87 hb (by kernel_rfl) rfl ?_
  have e0 : entry 29 [.snap (natC p0.fNat), .int .i64 own] (ofL []) = ((xF p0 own).D 29).st := (entry_ext (x := xF p0 own) (by rfl) (by rfl) 29).symm
  rw [e0]
  refine TO.rel (Q' := fun e s => e = .ret ∧ Gst GG s ((xF9 p0 .ret (r.getD 0) r.isSome).D 29).st) ?_ fun e s hq => ?_
  · rw [e87]
    refine TO.seq (TO.piece (kF0 p0 own) mixed (r := ()) rfl (by rfl) fun s g => ?_)
    refine TO.ghost g (TO.scope ?_ (by rintro l st ⟨h, _⟩; cases h))
    refine TO.seq (TO.tv (TV.label ?_))
    refine TO.seq (TO.seq (TO.piece (kF1 p0 own) mixed (r := ()) rfl (by rfl) fun s g => ?_))
    refine TO.ghost g (TO.block ((loop87 p0 own h).mono fun e s hs => ?_))
    cases r with
    | none =>
      obtain ⟨rfl, g⟩ := hs
      exact TO.ghost g (TO.piece (kF9 p0) mixed (r := ()) rfl (by rfl) fun s g => ⟨rfl, g⟩)
    | some p =>
      obtain ⟨rfl, g⟩ := hs
      exact ⟨rfl, g⟩
  · obtain ⟨rfl, g⟩ := hq
    exact Rel.ghost g (Rel.of ⟨.inr rfl, rfl, fun b k hk => by simp [ofL] at hk⟩)

noncomputable def s87 (p0 : SRouter) (own : Int) : EV.Spec Tryd.prog GG (Option Int) :=
  ⟨87, [.snap (natC p0.fNat), .int .i64 own], [], freeM p0.fNat own, fun r => .tup [.int .i64 (r.getD 0), .bool r.isSome], fun _ => [], [], fun _ _ h => by simp at h, fun _ h => free87 p0 own h⟩

end Go.Proofs.YtdiagiflihpidaaDoor
