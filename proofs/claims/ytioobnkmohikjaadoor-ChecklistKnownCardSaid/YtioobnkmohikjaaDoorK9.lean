/- The pairs of candidates that fit, gathered: a range over a function (a method value), put together by hand.
   The pairs that wait, set: a range over a map whose rounds come out alike in whatever order they are made.
   Guides and contracts, printed by a program.
   Guides and contracts, printed by a program.
   Guides and contracts, printed by a program.
   ChecklistKnown says yes: closed, by the kernel.
   The listed variables: laid in the witness; no function of the laws reads them. What a call may change: nothing of what was there.
   Arguments opened: what comes in reads as typed data. Conditions: none but that it reads at all.
   tannoylaw10.ChecklistKnown: the card. No conditions but the card's own. -/
import Derived.Test.YtioobnkmohikjaaDoorK8
import Derived.Test.YtioobnkmohikjaaDoorK7
import Derived.Test.YtioobnkmohikjaaDoorK6
import Derived.Test.YtioobnkmohikjaaDoorRows
import Derived.ChangeSame
import Derived.ChangeVars
import Derived.JoinedOf
import Derived.RowKit
import Derived.ProofKit
import Derived.LaidMore
import Derived.Lay
import Derived.OpenShut
import Derived.Carry
import Derived.Stop.Joined
import Derived.ChangeArms
import Derived.DataReads
import Derived.SevenTiedAt
import Derived.Test.YtioobnkmohikjaaDoorCards
import Derived.Test.YtioobnkmohikjaaDoorTie
import Derived.KernelRfl
namespace Go.Proofs.YtioobnkmohikjaaDoor
open Go Go.EV
set_option maxRecDepth 100000
def paC (x : SPair) : List V := [.int .i64 x.fLocal, .int .i64 x.fRemote, .int .i64 x.fPriority, .int .i64 x.fState]
def caC (x : SCandidate) : List V := [.int .i64 x.fKind, .int .i64 x.fComponent, .int .i64 x.fPriority, .str x.fFoundation, .str x.fAddr.fHost, .int .i64 x.fAddr.fPort, .str x.fBase.fHost, .int .i64 x.fBase.fPort]
def paO (out : List SPair) : V := .ref 1900070 0 out.length
def paTs : List (Nat × V) := [(6, .ptr 1000006 0 0), (7, .int .i64 0), (8, .ptr 1700061 0 0), (9, .ptr 1000009 0 0), (49, .fn 25 [.ptr 1700061 0 0] [])]
def paL (c : Bool) (ls rs : List SCandidate) (o : V) : List (Nat × Blk) :=
 [(1000006, ⟨4, true, [[.bool false, .nilsl, .nilsl, .nilsl]]⟩), (1000009, ⟨1, true, [[o]]⟩), (1700061, ⟨4, true, [[.bool c, .ref 1700062 0 ls.length, .ref 1700063 0 rs.length, .nilsl]]⟩)]
def paT (ls rs : List SCandidate) (out : List SPair) : List BT := [BT.of 1900070 tySPair 4 out true, BT.of 1700062 tySCandidate 8 ls true, BT.of 1700063 tySCandidate 8 rs true]
def paX (ts : List (Nat × V)) (c : Bool) (ls rs : List SCandidate) (out : List SPair) : Ext := Ext.of .normal ts (paL c ls rs (paO out)) (paT ls rs out) (by rfl)
def paB (c : Bool) (ls rs : List SCandidate) (out : List SPair) : List (Nat × Blk) := (paX [] c ls rs out).bs
theorem gst_to {st : St} (x : Ext) {n : Nat} (hok : x.ok = true) (hn : st.n = n) (h : extTs x st = x.ts ∧ extBs x st = x.bs.map fun p => (p.1, some p.2)) : Gst GG st (x.D n).st := by
 subst hn; exact ext_ghost hok h.1 h.2
def cRn : Code → Code
 | .seq _ (.scope (.seq _ (.seq _ (.seq _ (.seq _ (.seq (.seq _ (.block _ c)) _)))))) => c
 | _ => .skip
noncomputable def paR : Code := cRn (Tryd.f8.body.getD .skip)
noncomputable def paAs : Code := rAssign paR
noncomputable def paBd : Code := rBody paR
section
variable (c : Bool) (ls rs : List SCandidate) (out : List SPair)
def xRa (x : SPair) : Ext := paX ((50, .agg (paC x)) :: paTs) c ls rs out
def xRb (x : SPair) : Ext := Ext.of .normal (paTs ++ [(10, .ptr 10 0 0)]) ((10, ⟨4, true, [paC x]⟩) :: paL c ls rs (paO out)) (paT ls rs out) (by rfl)
def xRd (x : SPair) : Ext := Ext.of .normal [] (paL c ls rs (.ref 54 0 (out ++ [x]).length)) [BT.of 54 tySPair 4 (out ++ [x]) true, BT.of 1700062 tySCandidate 8 ls true, BT.of 1700063 tySCandidate 8 rs true] (by rfl)
theorem kRa (x : SPair) : Piece Tryd.prog GG [6, 7, 8, 9, 10, 49] 154 paAs (xRa c ls rs out x) (.done () : TT Unit) (fun _ => xRb c ls rs out x) := by unfold Piece; kernel_rfl
def gRd (x : SPair) : TT Unit := .app 9004 tySPair out [x] 32 false (by intro h; cases h) (.done ())
theorem kRd (x : SPair) : Piece Tryd.prog GG [54] 154 paBd (xRb c ls rs out x) (gRd out x) (fun _ => xRd c ls rs out x) := by unfold Piece; kernel_rfl
end
theorem mob9 {c : Bool} {ls rs : List SCandidate} {out : List SPair} {x : SPair} {g : St} (h : Gst GG g ((xRd c ls rs out x).D 154).st) : Gst GG g (susp 154 (fun _ => .undef) (ofL (paB c ls rs (out ++ [x])))) :=
 Gst.trans h (Gst.mob (lits := paL c ls rs (.ref 54 0 (out ++ [x]).length)) (rest := [(1700062, (BT.of 1700062 tySCandidate 8 ls true).k), (1700063, (BT.of 1700063 tySCandidate 8 rs true).k)]) (kd := (BT.of 54 tySPair 4 (out ++ [x]) true).k) (d := 54) (m := 1900070) (n := 154)
  (by decide) (by decide) (by decide) (by decide : ([1000006, 1000009, 1700061, 54, 1700062, 1700063] : List Nat).Nodup) (tySPair.data _) (by
   intro p hp
   simp only [List.mem_cons, List.not_mem_nil, or_false] at hp
   rcases hp with rfl | rfl
   ·exact tySCandidate.data ls
   ·exact tySCandidate.data rs) (by rfl) (by rfl))
theorem roundMake (c : Bool) (ls rs : List SCandidate) (out : List SPair) (x : SPair) (hb : (gRd out x).run = some ()) :
  RoundT Tryd.prog GG 154 (tOf paTs) [50] paAs paBd (ofL (paB c ls rs out)) [.agg (paC x)] (fun e b' => e = .normal ∧ b' = ofL (paB c ls rs (out ++ [x]))) := by
 refine ⟨((xRb c ls rs out x).D 154).st, ?_, ?_⟩
 ·have h := (kRa c ls rs out x).tv mixed (r := ()) rfl (by rfl)
  have e : ((xRa c ls rs out x).D 154).st = setP (susp 154 (tOf paTs) (ofL (paB c ls rs out))) ([50].zip [.agg (paC x)]) := by
   rw [ext_susp (by rfl)]
   exact (setP_susp 154 paTs _ 50 (.agg (paC x))).symm
  rw [e] at h
  exact h
 ·refine ((kRd c ls rs out x).tv mixed hb (by rfl)).mono fun e s' hg => ?_
  obtain ⟨rfl, g⟩ := hg
  exact ⟨_, 154, ⟨rfl, rfl⟩, mob9 g⟩
def paArgs (l : Nat) : List V := [.ptr 1700061 0 0, .yld l]
noncomputable def cIt : Code := Tryd.f25.body.getD .skip
noncomputable def iR0 : Code := cL cIt
noncomputable def cOut : Code := cB (cB (cR cIt))
noncomputable def iR1 : Code := cL cOut
noncomputable def cO2 : Code := cB (cL (cR (cR cOut)))
noncomputable def iR2 : Code := cL cO2
noncomputable def iR3 : Code := cL (cR cO2)
noncomputable def cIn : Code := cB (cB (cR (cR cO2)))
noncomputable def iR10 : Code := cR (cR (cR cOut))
noncomputable def iR4 : Code := cL cIn
noncomputable def cI2 : Code := cB (cL (cR (cR cIn)))
noncomputable def iR5 : Code := cL cI2
noncomputable def iR6 : Code := cL (cR cI2)
noncomputable def iR7 : Code := cL (cR (cR cI2))
noncomputable def ops8 : Array Oper := rOps (cL (cR (cR (cR cI2))))
noncomputable def iR9 : Code := cR (cR (cR cIn))
theorem eIt : cIt = .seq iR0 (.block 0 (.loop cOut)) := by kernel_rfl
theorem eOut : cOut = .seq iR1 (.seq (.cond (.tmp 16) .skip (.exit 0)) (.seq (.block 1 (.seq iR2 (.seq iR3 (.block 2 (.loop cIn))))) iR10)) := by kernel_rfl
theorem eIn : cIn = .seq iR4 (.seq (.cond (.tmp 27) .skip (.exit 2)) (.seq (.block 3 (.seq iR5 (.seq iR6 (.seq iR7 (.seq (.region 8 ops8 false) (.cond (.tmp 46) .ret .skip)))))) iR9)) := by kernel_rfl
section
variable (l : Nat) (c : Bool) (ls rs : List SCandidate)
def tA (i : Int) : List (Nat × V) := [(0, .ptr 1700061 0 0), (1, .yld l), (13, .ref 1700062 0 ls.length), (14, .int .i64 (ls.length : Int)), (15, .int .i64 i)]
def tB (i : Int) (a : SCandidate) : List (Nat × V) := tA l ls i ++ [(4, .int .i64 i), (5, .snap (caC a))]
def tC (i k : Int) (a : SCandidate) : List (Nat × V) := tB l ls i a ++ [(24, .ref 1700063 0 rs.length), (25, .int .i64 (rs.length : Int)), (26, .int .i64 k)]
def tD (i k : Int) (a : SCandidate) : List (Nat × V) := tC l ls rs i k a ++ [(6, .int .i64 k), (7, .ptr 7 0 0)]
def tE (i k : Int) (a : SCandidate) : List (Nat × V) := tD l ls rs i k a ++ [(8, .ptr 8 0 0)]
def xI (out : List SPair) : Ext := paX (argTs (paArgs l)) c ls rs out
def xA (i : Int) (out : List SPair) : Ext := paX (tA l ls i) c ls rs out
def xA1 (i : Int) (out : List SPair) : Ext := paX (tA l ls i ++ [(16, .bool (decide (i < (ls.length : Int))))]) c ls rs out
def xB0 (i : Int) (a : SCandidate) (out : List SPair) : Ext := Ext.of .normal (tA l ls i ++ [(4, .int .i64 i), (5, .ptr 5 0 0)]) ((5, ⟨8, true, [caC a]⟩) :: paL c ls rs (paO out)) (paT ls rs out) (by rfl)
def xB (i : Int) (a : SCandidate) (out : List SPair) : Ext := paX (tB l ls i a) c ls rs out
def xC (i k : Int) (a : SCandidate) (out : List SPair) : Ext := paX (tC l ls rs i k a) c ls rs out
def xC1 (i k : Int) (a : SCandidate) (out : List SPair) : Ext := paX (tC l ls rs i k a ++ [(27, .bool (decide (k < (rs.length : Int))))]) c ls rs out
def xD (i k : Int) (a b : SCandidate) (out : List SPair) : Ext := Ext.of .normal (tD l ls rs i k a) ((7, ⟨8, true, [caC b]⟩) :: paL c ls rs (paO out)) (paT ls rs out) (by rfl)
def xE (i k p : Int) (a b : SCandidate) (out : List SPair) : Ext := Ext.of .normal (tE l ls rs i k a) ((7, ⟨8, true, [caC b]⟩) :: (8, ⟨4, true, [paC ⟨i, k, p, 0⟩]⟩) :: paL c ls rs (paO out)) (paT ls rs out) (by rfl)
def tF (i k p : Int) (f : Bool) : List (Nat × V) := bif f then [(41, .bool true), (42, .yld l), (43, .agg (paC ⟨i, k, p, 0⟩))] else [(41, .bool false), (42, .tup []), (43, .tup [])]
def xF (i k p : Int) (a b : SCandidate) (out : List SPair) (f : Bool) : Ext := Ext.of .normal (tE l ls rs i k a ++ tF l i k p f) ((7, ⟨8, true, [caC b]⟩) :: (8, ⟨4, true, [paC ⟨i, k, p, 0⟩]⟩) :: paL c ls rs (paO out)) (paT ls rs out) (by rfl)
def xG (i k p : Int) (a : SCandidate) (out : List SPair) (f : Bool) : Ext := paX (tC l ls rs i k a ++ tF l i k p f) c ls rs out
theorem kR0 (out : List SPair) : Piece Tryd.prog GG [0, 1, 13, 14, 15] 49 iR0 (xI l c ls rs out) (.done () : TT Unit) (fun _ => xA l c ls rs 0 out) := by unfold Piece; kernel_rfl
theorem kR1 (i : Int) (out : List SPair) : Piece Tryd.prog GG [0, 1, 13, 14, 15, 16] 49 iR1 (xA l c ls rs i out) (.done () : TT Unit) (fun _ => xA1 l c ls rs i out) := by unfold Piece; kernel_rfl
def gR2 (i : Int) : TT SCandidate := .chk 2002 (decide (0 ≤ i) && decide (i < (ls.length : Int))) (.row 2003 tySCandidate ls (0 + i.toNat) true fun x => .done x)
theorem kR2 (i : Int) (out : List SPair) : Piece Tryd.prog GG [0, 1, 4, 5, 13, 14, 15] 49 iR2 (xA l c ls rs i out) (gR2 ls i) (fun a => xB0 l c ls rs i a out) := by unfold Piece; kernel_rfl
theorem kR3 (i : Int) (a : SCandidate) (out : List SPair) : Piece Tryd.prog GG [0, 1, 4, 5, 13, 14, 15, 24, 25, 26] 49 iR3 (xB l c ls rs i a out) (.done () : TT Unit) (fun _ => xC l c ls rs i 0 a out) := by unfold Piece; kernel_rfl
theorem kR4 (i k : Int) (a : SCandidate) (out : List SPair) : Piece Tryd.prog GG [0, 1, 4, 5, 13, 14, 15, 24, 25, 26, 27] 49 iR4 (xC l c ls rs i k a out) (.done () : TT Unit) (fun _ => xC1 l c ls rs i k a out) := by unfold Piece; kernel_rfl
def gR5 (k : Int) : TT SCandidate := .chk 5002 (decide (0 ≤ k) && decide (k < (rs.length : Int))) (.row 5003 tySCandidate rs (0 + k.toNat) true fun x => .done x)
theorem kR5 (i k : Int) (a : SCandidate) (out : List SPair) : Piece Tryd.prog GG [0, 1, 4, 5, 6, 7, 13, 14, 15, 24, 25, 26] 49 iR5 (xC l c ls rs i k a out) (gR5 rs k) (fun b => xD l c ls rs i k a b out) := by unfold Piece; kernel_rfl
theorem kR6 (i k : Int) (a b : SCandidate) (out : List SPair) : Piece Tryd.prog GG [0, 1, 4, 5, 6, 7, 8, 13, 14, 15, 24, 25, 26] 49 iR6 (xD l c ls rs i k a b out) (.done () : TT Unit) (fun _ => xE l c ls rs i k 0 a b out) := by unfold Piece; kernel_rfl
noncomputable def gR7 (i k : Int) : TT Int := .view 7003 (s35_1 c ls rs (SPair.mk i k 0 0)) [(VwW.of 1700062 tySCandidate ls), (VwW.of 1700063 tySCandidate rs)] fun r => .done r
theorem kR7 (i k : Int) (a b : SCandidate) (out : List SPair) : Piece Tryd.prog GG [0, 1, 4, 5, 6, 7, 8, 13, 14, 15, 24, 25, 26] 49 iR7 (xE l c ls rs i k 0 a b out) (gR7 c ls rs i k) (fun p => xE l c ls rs i k p a b out) := by unfold Piece; kernel_rfl
noncomputable def gR8 (a b : SCandidate) : TT Bool := .call 8003 (s50 a b) [] [] fun r => .br 8005 r (.done true) (.done false)
theorem kR8 (i k p : Int) (a b : SCandidate) (out : List SPair) : PieceOps Tryd.prog GG [0, 1, 4, 5, 6, 7, 8, 13, 14, 15, 24, 25, 26, 41, 42, 43] 49 8 ops8 6 (xE l c ls rs i k p a b out) (gR8 a b) (xF l c ls rs i k p a b out) := by unfold PieceOps; kernel_rfl
theorem kR9 (i k : Int) (a : SCandidate) (out : List SPair) : Piece Tryd.prog GG [0, 1, 4, 5, 13, 14, 15, 24, 25, 26] 49 iR9 (xC l c ls rs i k a out) (.done () : TT Unit) (fun _ => xC l c ls rs i (wi64 (k + 1)) a out) := by unfold Piece; kernel_rfl
theorem kR10 (i : Int) (out : List SPair) : Piece Tryd.prog GG [0, 1, 13, 14, 15] 49 iR10 (xA l c ls rs i out) (.done () : TT Unit) (fun _ => xA l c ls rs (wi64 (i + 1)) out) := by unfold Piece; kernel_rfl
end
noncomputable def inStep (c : Bool) (ls rs : List SCandidate) (i : Int) (a : SCandidate) (s : Int × List SPair) : Option ((Int × List SPair) ⊕ List SPair) :=
 bif decide (s.1 < (rs.length : Int)) then
  (match (gR5 rs s.1).run with
  | none => none
  | some b => match (gR7 c ls rs i s.1).run with
   | none => none
   | some p => match (gR8 a b).run with
    | none => none
    | some f => bif f then (match (gRd s.2 ⟨i, s.1, p, 0⟩).run with
      | none => none
      | some _ => some (.inl (wi64 (s.1 + 1), s.2 ++ [⟨i, s.1, p, 0⟩])))
     else some (.inl (wi64 (s.1 + 1), s.2)))
 else some (.inr s.2)
noncomputable def inM (c : Bool) (ls rs : List SCandidate) (i : Int) (a : SCandidate) (out : List SPair) : Option (List SPair) := iter (inStep c ls rs i a) FUEL (0, out)
noncomputable def outStep (c : Bool) (ls rs : List SCandidate) (s : Int × List SPair) : Option ((Int × List SPair) ⊕ List SPair) :=
 bif decide (s.1 < (ls.length : Int)) then
  (match (gR2 ls s.1).run with
  | none => none
  | some a => match inM c ls rs s.1 a s.2 with
   | none => none
   | some out => some (.inl (wi64 (s.1 + 1), out)))
 else some (.inr s.2)
noncomputable def pairsM (c : Bool) (ls rs : List SCandidate) : Option (List SPair) := iter (outStep c ls rs) FUEL (0, [])
noncomputable def paYL : YL := ⟨154, tOf paTs, #[50], paAs, paBd⟩
theorem inner (l : Nat) (c : Bool) (ls rs : List SCandidate) (i : Int) (a : SCandidate) (out : List SPair) {r : List SPair} (h : inM c ls rs i a out = some r) {Q : Exit → YS → Prop}
    (hq : ∀ st, Gst GG st ((xA l c ls rs i r).D 49).st → Q .normal ⟨.normal, st⟩) :
    YT Tryd.prog GG paYL l (.block 2 (.loop cIn)) ⟨.normal, ((xC l c ls rs i 0 a out).D 49).st⟩ Q := by
  refine YT.block ?_
  refine YT.loop (fun m s => s.x = .normal ∧ ∃ y : Int × List SPair, Gst GG s.st ((xC l c ls rs i y.1 a y.2).D 49).st ∧ iter (inStep c ls rs i a) m y = some r) (fun m s hI => ?_) (n := FUEL) ⟨rfl, (0, out), Gst.same _, h⟩
  obtain ⟨x, st⟩ := s
  obtain ⟨rfl, ⟨k, o⟩, g, hit⟩ := hI
  refine YT.gst g ?_
  cases m with
  | zero => simp [iter] at hit
  | succ m =>
    rw [iter_succ] at hit
    rw [eIn]
    refine YT.seq (YT.piece (kR4 l c ls rs i k a o) mixed rfl (by rfl) fun s g => ?_)
    show YT _ _ _ _ _ _ _
    refine YT.gst g ?_
    cases hc : decide (k < (rs.length : Int)) with
    | false =>
      have hs0 : inStep c ls rs i a (k, o) = some (.inr o) := by unfold inStep; simp only [hc]; rfl
      rw [hs0] at hit
      obtain rfl : o = r := Option.some.inj hit
      refine YT.seq (YT.cond (b := false) (by show some (V.bool (decide (k < (rs.length : Int)))) = _; rw [hc]) (YT.exit ?_))
      show Q .normal _
      exact hq _ (gst_to (xA l c ls rs i o) (by rfl) rfl ⟨by rfl, by rfl⟩)
    | true =>
      refine YT.seq (YT.cond (b := true) (by show some (V.bool (decide (k < (rs.length : Int)))) = _; rw [hc]) (YT.skip ?_))
      show YT _ _ _ _ _ _ _
      refine YT.gst (st' := ((xC l c ls rs i k a o).D 49).st) (gst_to (xC l c ls rs i k a o) (by rfl) rfl ⟨by rfl, by rfl⟩) ?_
      cases h5 : (gR5 rs k).run with
      | none => have hs0 : inStep c ls rs i a (k, o) = none := by unfold inStep; simp only [hc, h5]; rfl
                rw [hs0] at hit; simp at hit
      | some b =>
      cases h7 : (gR7 c ls rs i k).run with
      | none => have hs0 : inStep c ls rs i a (k, o) = none := by unfold inStep; simp only [hc, h5, h7]; rfl
                rw [hs0] at hit; simp at hit
      | some p =>
      cases h8 : (gR8 a b).run with
      | none => have hs0 : inStep c ls rs i a (k, o) = none := by unfold inStep; simp only [hc, h5, h7, h8]; rfl
                rw [hs0] at hit; simp at hit
      | some f =>
      have next : ∀ (o2 : List SPair) (st : St), iter (inStep c ls rs i a) m (wi64 (k + 1), o2) = some r → Gst GG st ((xC l c ls rs i k a o2).D 49).st →
          YT Tryd.prog GG paYL l iR9 ⟨.normal, st⟩ (thenY (fun s' => ∃ m', m' < m + 1 ∧ s'.x = .normal ∧ ∃ y : Int × List SPair, Gst GG s'.st ((xC l c ls rs i y.1 a y.2).D 49).st ∧ iter (inStep c ls rs i a) m' y = some r) (inBlockY 2 Q)) := fun o2 st h2 g2 => by
        refine YT.gst g2 ?_
        refine YT.piece (kR9 l c ls rs i k a o2) mixed rfl (by rfl) fun s g => ?_
        exact ⟨m, Nat.lt_succ_self m, rfl, (wi64 (k + 1), o2), g, h2⟩
      refine YT.seq (YT.block (YT.seq (YT.piece (kR5 l c ls rs i k a o) mixed h5 (by rfl) fun s g => ?_)))
      show YT _ _ _ _ _ _ _
      refine YT.gst g ?_
      refine YT.seq (YT.piece (kR6 l c ls rs i k a b o) mixed rfl (by rfl) fun s g => ?_)
      show YT _ _ _ _ _ _ _
      refine YT.gst g ?_
      refine YT.seq (YT.piece (kR7 l c ls rs i k a b o) mixed h7 (by rfl) fun s g => ?_)
      show YT _ _ _ _ _ _ _
      refine YT.gst g ?_
      refine YT.seq (YT.region ?_)
      show YTops _ _ _ _ _ ([0, 1, 2, 3, 4, 5] ++ [6, 7, 8]) _ _
      refine YTops.tv ((kR8 l c ls rs i k p a b o).tv mixed h8 (by cases f <;> rfl)) fun e st hq' => ⟨by rw [hq'.1]; cases f <;> rfl, YTops.gst hq'.2 ?_⟩
      refine YTops.gst (st' := ((xG l c ls rs i k p a o f).D 49).st) (by cases f <;> exact gst_to _ (by rfl) rfl ⟨by rfl, by rfl⟩) ?_
      cases f with
      | false =>
        have hs0 : inStep c ls rs i a (k, o) = some (.inl (wi64 (k + 1), o)) := by unfold inStep; simp only [hc, h5, h7, h8]; rfl
        rw [hs0] at hit
        refine YTops.step rfl (YTops.step rfl (YTops.step rfl (YTops.nil ?_)))
        show YT _ _ _ _ _ _ _
        refine YT.cond (b := false) rfl (YT.skip ?_)
        show YT _ _ _ _ _ _ _
        exact next o _ hit (gst_to (xC l c ls rs i k a o) (by rfl) rfl ⟨by rfl, by rfl⟩)
      | true =>
        cases hd : (gRd o ⟨i, k, p, 0⟩).run with
        | none => have hs0 : inStep c ls rs i a (k, o) = none := by unfold inStep; simp only [hc, h5, h7, h8, hd]; rfl
                  rw [hs0] at hit; simp at hit
        | some u =>
        have hs0 : inStep c ls rs i a (k, o) = some (.inl (wi64 (k + 1), o ++ [⟨i, k, p, 0⟩])) := by unfold inStep; simp only [hc, h5, h7, h8, hd]; rfl
        rw [hs0] at hit
        rw [ext_susp (x := xG l c ls rs i k p a o true) (by rfl) 49]
        refine YTops.yieldG (hi := rfl) rfl rfl rfl rfl rfl rfl rfl ?_ ?_ ?_ rfl (roundMake c ls rs o ⟨i, k, p, 0⟩ hd) ?_ ?_
        · exact fun i => tOf_ok (by rfl) i
        · exact fun i => tOf_ok (by rfl) i
        · intro p hp
          have : p ∈ [50] := hp
          simp at this
          subst this
          exact (by decide : 50 < 154)
        · exact fun e b' h => .inl h.1
        · intro e b' h
          obtain ⟨rfl, rfl⟩ := h
          refine YTops.step rfl (YTops.step rfl (YTops.nil ?_))
          show YT _ _ _ _ _ _ _
          refine YT.cond (b := false) rfl (YT.skip ?_)
          show YT _ _ _ _ _ _ _
          exact next _ _ hit (gst_to (xC l c ls rs i k a (o ++ [⟨i, k, p, 0⟩])) (by rfl) rfl ⟨by rfl, by rfl⟩)
theorem iterMake (c : Bool) (ls rs : List SCandidate) {r : List SPair} (h : pairsM c ls rs = some r) :
    IterT Tryd.prog GG cIt 49 paArgs (ofL (paB c ls rs [])) paYL (fun e b => e = .normal ∧ b = ofL (paB c ls rs r)) := by
  refine IterT.of fun l => ?_
  have e0 : entry 49 (paArgs l) (ofL (paB c ls rs [])) = ((xI l c ls rs []).D 49).st := (entry_ext (x := xI l c ls rs []) (by rfl) (by rfl) 49).symm
  rw [e0, eIt]
  refine YT.seq (YT.piece (kR0 l c ls rs []) mixed rfl (by rfl) fun s g => ?_)
  show YT _ _ _ _ _ _ _
  refine YT.gst g ?_
  refine YT.block ?_
  refine YT.loop (fun m s => s.x = .normal ∧ ∃ y : Int × List SPair, Gst GG s.st ((xA l c ls rs y.1 y.2).D 49).st ∧ iter (outStep c ls rs) m y = some r) (fun m s hI => ?_) (n := FUEL) ⟨rfl, (0, []), Gst.same _, h⟩
  obtain ⟨x, st⟩ := s
  obtain ⟨rfl, ⟨i, o⟩, g, hit⟩ := hI
  refine YT.gst g ?_
  cases m with
  | zero => simp [iter] at hit
  | succ m =>
    rw [iter_succ] at hit
    rw [eOut]
    refine YT.seq (YT.piece (kR1 l c ls rs i o) mixed rfl (by rfl) fun s g => ?_)
    show YT _ _ _ _ _ _ _
    refine YT.gst g ?_
    cases hc : decide (i < (ls.length : Int)) with
    | false =>
      have hs0 : outStep c ls rs (i, o) = some (.inr o) := by unfold outStep; simp only [hc]; rfl
      rw [hs0] at hit
      obtain rfl : o = r := Option.some.inj hit
      refine YT.seq (YT.cond (b := false) (by show some (V.bool (decide (i < (ls.length : Int)))) = _; rw [hc]) (YT.exit ?_))
      refine ⟨.inl rfl, 49, tOf (xA1 l c ls rs i o).ts, ofL (paB c ls rs o), ?_, rfl, rfl⟩
      show Gst GG ((xA1 l c ls rs i o).D 49).st _
      rw [ext_susp (by rfl) 49]
      exact Gst.same _
    | true =>
      refine YT.seq (YT.cond (b := true) (by show some (V.bool (decide (i < (ls.length : Int)))) = _; rw [hc]) (YT.skip ?_))
      show YT _ _ _ _ _ _ _
      refine YT.gst (st' := ((xA l c ls rs i o).D 49).st) (gst_to (xA l c ls rs i o) (by rfl) rfl ⟨by rfl, by rfl⟩) ?_
      cases h2 : (gR2 ls i).run with
      | none => have hs0 : outStep c ls rs (i, o) = none := by unfold outStep; simp only [hc, h2]; rfl
                rw [hs0] at hit; simp at hit
      | some a =>
      cases h3 : inM c ls rs i a o with
      | none => have hs0 : outStep c ls rs (i, o) = none := by unfold outStep; simp only [hc, h2, h3]; rfl
                rw [hs0] at hit; simp at hit
      | some o2 =>
      have hs0 : outStep c ls rs (i, o) = some (.inl (wi64 (i + 1), o2)) := by unfold outStep; simp only [hc, h2, h3]; rfl
      rw [hs0] at hit
      refine YT.seq (YT.block (YT.seq (YT.piece (kR2 l c ls rs i o) mixed h2 (by rfl) fun s g => ?_)))
      show YT _ _ _ _ _ _ _
      refine YT.gst g ?_
      refine YT.gst (Gst.snapT (t := 5) (b := 5) (k := ⟨8, true, [caC a]⟩) (row := caC a) rfl rfl rfl (by show 8 < MAPS; decide) (by simp [caC, dcell])) ?_
      refine YT.gst (st' := ((xB l c ls rs i a o).D 49).st) (gst_to (xB l c ls rs i a o) (by rfl) rfl ⟨by rfl, by rfl⟩) ?_
      refine YT.seq (YT.piece (kR3 l c ls rs i a o) mixed rfl (by rfl) fun s g => ?_)
      show YT _ _ _ _ _ _ _
      refine YT.gst g ?_
      refine inner l c ls rs i a o h3 fun st g => ?_
      show YT _ _ _ _ _ _ _
      refine YT.gst g ?_
      refine YT.piece (kR10 l c ls rs i o2) mixed rfl (by rfl) fun s g => ?_
      exact ⟨m, Nat.lt_succ_self m, rfl, (wi64 (i + 1), o2), g, hit⟩
def paFTs : List (Nat × V) := [(6, .ptr 6 0 0), (7, .int .i64 0), (8, .ptr 700061 0 0), (9, .ptr 9 0 0)]
def paFL (c : Bool) (ls rs : List SCandidate) (out : List SPair) : List (Nat × Blk) :=
 [(6, ⟨4, true, [[.bool false, .nilsl, .nilsl, .nilsl]]⟩), (9, ⟨1, true, [[.ref 900070 0 out.length]]⟩), (700061, ⟨4, true, [[.bool c, .ref 700062 0 ls.length, .ref 700063 0 rs.length, .nilsl]]⟩)]
def paFT (ls rs : List SCandidate) (out : List SPair) : List BT := [BT.of 900070 tySPair 4 out true, BT.of 700062 tySCandidate 8 ls true, BT.of 700063 tySCandidate 8 rs true]
def xPa (c : Bool) (ls rs : List SCandidate) (out : List SPair) : Ext := Ext.of .normal (paFTs ++ [(49, .fn 25 [.ptr 700061 0 0] [])]) (paFL c ls rs out) (paFT ls rs out) (by rfl)
def ePa (c : Bool) (ls rs : List SCandidate) (out : List SPair) : Ext := Ext.of .normal paFTs (paFL c ls rs out) (paFT ls rs out) (by rfl)
theorem sh_rows {α : Type} (ty : Ty α) (l : List α) : (List.map ty.c l).map (renL sh) = List.map ty.c l := by
 have h : DataRows (l.map ty.c) := ty.data l
 have : (⟨0, true, List.map ty.c l⟩ : Blk).ren sh = ⟨0, true, List.map ty.c l⟩ := DataRows.ren (k := ⟨0, true, List.map ty.c l⟩) h sh
 have := congrArg Blk.rows this
 exact this
theorem bsMake (c : Bool) (ls rs : List SCandidate) (out : List SPair) : shB (ofL (xPa c ls rs out).bs) = ofL (paB c ls rs out) := by
 rw [shB_ofL]
 have : ((xPa c ls rs out).bs.map fun p => (sh p.1, p.2.ren sh)) = paB c ls rs out := by
  simp only [xPa, Ext.of, paFL, paFT, List.cons_append, List.nil_append, List.map_cons, List.map_nil, BT.of, Blk.ren, sh_rows]
  kernel_rfl
 rw [this]
theorem loopMake (c : Bool) (ls rs : List SCandidate) {r : List SPair} (h : pairsM c ls rs = some r) :
  TV Tryd.prog GG (.rangeFunc (.tmp 49) #[50] paAs paBd) ((xPa c ls rs []).D 154).st (fun e st => e = .normal ∧ Gst GG st ((ePa c ls rs r).D 154).st) := by
 have ht : (fun i => renV sh (((xPa c ls rs []).D 154).st.t i)) = tOf paTs := by
  have : ((xPa c ls rs []).D 154).st.t = tOf (xPa c ls rs []).ts := rfl
  rw [this, tOf_shift]
  have : ((xPa c ls rs []).ts.map fun p => (p.1, renV sh p.2)) = paTs := by kernel_rfl
  rw [this]
 have hb : Tryd.f25.body = some cIt := by kernel_rfl
 refine TV.rangeF (f := 25) (fi := Tryd.f25) (c := cIt) (first := [.ptr 1700061 0 0]) (caps := []) (R := fun e b => e = .normal ∧ b = ofL (paB c ls rs r)) ?_ Tryd.func25 hb (by kernel_rfl) (by kernel_rfl) ?_ (fun i => ?_) ?_ ?_
 ·show some ((fun i => renV sh (((xPa c ls rs []).D 154).st.t i)) 49) = _
  rw [ht]; rfl
 ·intro b k hk
  obtain ⟨q, h1, rfl, _⟩ := find_b (show ofL (xPa c ls rs []).bs b = some k from hk)
  show (((xPa c ls rs []).us).contains q.1 || uTop q.1) = true
  simp only [Ext.us, Bool.or_eq_true, List.contains_eq_mem, decide_eq_true_eq]
  exact .inl (List.mem_map.2 ⟨q, h1, rfl⟩)
 ·have := congrFun ht i
  rw [show renV sh (((xPa c ls rs []).D 154).st.t i) = tOf paTs i from this]
  exact tOf_ok (by rfl) i
 ·have hbb : shB ((xPa c ls rs []).D 154).st.b = ofL (paB c ls rs []) := bsMake c ls rs []
  rw [ht, hbb]
  have e : max Tryd.f25.ntmps ([V.ptr 1700061 0 0].length + 1 + ([] : List V).length) = 49 := by kernel_rfl
  rw [e]
  exact iterMake c ls rs h
 ·intro e b' ho
  obtain ⟨rfl, rfl⟩ := ho
  refine ⟨.inl rfl, ofL (xPa c ls rs r).bs, (bsMake c ls rs r).symm, ?_, rfl, ?_⟩
  ·show (stOf 154 (xPa c ls rs []).ts (xPa c ls rs r).bs (xPa c ls rs []).us).known
   refine ⟨fun i b hm => ?_, fun i k hk => ?_⟩
   ·have hm' : b ∈ refsV (tOf (xPa c ls rs []).ts i) := hm
    unfold tOf at hm'
    cases hf : (xPa c ls rs []).ts.find? (fun p => p.1 == i) with
    | none => rw [hf] at hm'; simp [refsV] at hm'
    | some p =>
     rw [hf] at hm'
     have all : ((xPa c ls rs []).ts.all fun p => (refsV p.2).all fun b => (xPa c ls rs []).us.contains b) = true := by rfl
     have := List.all_eq_true.1 (List.all_eq_true.1 all p (List.mem_of_find?_eq_some hf)) b hm'
     show ((xPa c ls rs []).us.contains b || uTop b) = true
     rw [this]; rfl
   ·obtain ⟨q, h1, rfl, rfl⟩ := find_b (show ofL (xPa c ls rs r).bs i = some k from hk)
    have husl : (xPa c ls rs r).us = (xPa c ls rs []).us := rfl
    refine ⟨?_, fun b hm => ?_⟩
    ·show ((xPa c ls rs []).us.contains q.1 || uTop q.1) = true
     rw [← husl]
     simp only [Ext.us, Bool.or_eq_true, List.contains_eq_mem, decide_eq_true_eq]
     exact .inl (List.mem_map.2 ⟨q, h1, rfl⟩)
    ·have : q ∈ paFL c ls rs r ++ (paFT ls rs r).map fun x => (x.id, x.k) := h1
     rcases List.mem_append.1 this with h2 | h2
     ·have all : ((paFL c ls rs r).all fun q => (refsL q.2.rows.flatten).all fun b => (xPa c ls rs []).us.contains b) = true := by rfl
      have := List.all_eq_true.1 (List.all_eq_true.1 all q h2) b hm
      show ((xPa c ls rs []).us.contains b || uTop b) = true
      rw [this]; rfl
     ·have hdat := bts_dat _ h2
      rw [hdat.refs] at hm; simp at hm
  ·show Gst GG (stOf 154 (xPa c ls rs []).ts (xPa c ls rs r).bs (xPa c ls rs []).us) _
   exact gst_to (ePa c ls rs r) (by rfl) rfl ⟨by rfl, by rfl⟩
noncomputable def subPairs (c : Bool) (ls rs : List SCandidate) : Sub Tryd.prog GG (List SPair) :=
 ⟨.rangeFunc (.tmp 49) #[50] paAs paBd, 154, xPa c ls rs [], pairsM c ls rs, ePa c ls rs, fun _ h => loopMake c ls rs h⟩
end Go.Proofs.YtioobnkmohikjaaDoor
namespace Go.Proofs.YtioobnkmohikjaaDoor
open Go Go.EV
set_option maxRecDepth 100000
noncomputable def cMk : Code := cB (cR (Tryd.f8.body.getD .skip))
def cWt : Code → Code
 | .seq _ (.seq _ (.seq _ (.seq _ (.seq _ (.seq _ (.seq _ (.seq _ (.seq _ (.seq _ (.seq _ (.seq c _))))))))))) => c
 | _ => .skip
noncomputable def wCode : Code := cWt cMk
noncomputable def wOps29 : Array Oper := rOps (cL wCode)
noncomputable def wLoop : Code := cB (cB (cR wCode))
noncomputable def wOps30 : Array Oper := rOps (cL wLoop)
noncomputable def wBody : Code := cB (cR (cR wLoop))
noncomputable def wOps31 : Array Oper := rOps (cL wBody)
noncomputable def wOps32 : Array Oper := rOps (cR wBody)
theorem eWt : wCode = .seq (.region 29 wOps29 false) (.block 6 (.loop (.seq (.region 30 wOps30 false) (.seq (.cond (.tmp 139) .skip (.exit 6)) (.block 7 (.seq (.region 31 wOps31 false) (.region 32 wOps32 false))))))) := by kernel_rfl
def wTs : List (Nat × V) := [(6, .ptr 6 0 0), (7, .int .i64 0), (8, .ptr 700061 0 0)]
def wL (c : Bool) (ls rs : List SCandidate) (m : Nat) : List (Nat × Blk) := [(6, ⟨4, true, [[.bool false, .nilsl, .nilsl, .nilsl]]⟩), (700061, ⟨4, true, [[.bool c, .ref 700062 0 ls.length, .ref 700063 0 rs.length, .ref 700064 0 m]]⟩)]
def wT (ls rs : List SCandidate) (s : List SPair) : List BT := [BT.of 700062 tySCandidate 8 ls true, BT.of 700063 tySCandidate 8 rs true, BT.of 700064 tySPair 4 s true]
section
variable (c : Bool) (ls rs : List SCandidate) (m : Nat)
def eW (s : List SPair) : Ext := Ext.of .normal wTs (wL c ls rs m) (wT ls rs s) (by rfl)
def xW (l : List SEnt80) (s : List SPair) : Ext := Ext.of .normal (wTs ++ [(14, .mp 700065)]) (wL c ls rs m) (wT ls rs s ++ [BT.of 700065 tySEnt80 1114370 l true]) (by rfl)
def xWi (i : Int) (s : List SPair) : Ext := Ext.of .normal (wTs ++ [(21, .int .i64 i)]) (wL c ls rs m) (wT ls rs s) (by rfl)
def gW (i : Int) (s : List SPair) : TT (List SPair) :=
 .chk 32007 (decide (0 ≤ i) && decide (i < (m : Int))) (.row 32009 tySPair s (0 + i.toNat) true fun x =>
  .re 32009 (ReW.put 700064 4 tySPair s (0 + i.toNat) (SPair.mk x.fLocal x.fRemote x.fPriority 1)) (.done (s.set (0 + i.toNat) (SPair.mk x.fLocal x.fRemote x.fPriority 1))))
theorem kW (i : Int) (s : List SPair) : PieceOps Tryd.prog GG [6, 7, 8] 154 32 wOps32 9 (xWi c ls rs m i s) (gW m i s) (fun s' => eW c ls rs m s') := by unfold PieceOps; kernel_rfl
end
def wSet (m : Nat) (i : Int) (s : List SPair) : Option (List SPair) :=
 bif decide (0 ≤ i) && decide (i < (m : Int)) then (match s[i.toNat]? with | some x => some (s.set i.toNat (SPair.mk x.fLocal x.fRemote x.fPriority 1)) | none => none) else none
theorem gW_run (m : Nat) (i : Int) (s : List SPair) : (gW m i s).run = wSet m i s := by
 unfold gW wSet
 simp only [T.run, Nat.zero_add, cond_true]
 cases (decide (0 ≤ i) && decide (i < (m : Int))) with
 | false => rfl
 | true => simp only [cond_true]; cases s[i.toNat]? <;> rfl
theorem wSet_comm (m : Nat) (i j : Int) (s : List SPair) : (wSet m i s).bind (wSet m j) = (wSet m j s).bind (wSet m i) := by
 unfold wSet
 cases hi : (decide (0 ≤ i) && decide (i < (m : Int))) <;> cases hj : (decide (0 ≤ j) && decide (j < (m : Int)))
 ·rfl
 ·simp only [cond_true, cond_false]
  cases s[j.toNat]? <;> rfl
 ·simp only [cond_true, cond_false]
  cases s[i.toNat]? <;> rfl
 ·simp only [cond_true]
  by_cases e : i.toNat = j.toNat
  ·rw [e]
  ·cases h1 : s[i.toNat]? with
   | none =>
    cases h2 : s[j.toNat]? with
    | none => rfl
    | some y => simp only [Option.bind_none, Option.bind_some, List.getElem?_set_ne (Ne.symm e), h1]
   | some x =>
    cases h2 : s[j.toNat]? with
    | none => simp only [Option.bind_none, Option.bind_some, List.getElem?_set_ne e, h2]
    | some y => simp only [Option.bind_some, List.getElem?_set_ne e, List.getElem?_set_ne (Ne.symm e), h1, h2, Option.some.injEq]; exact List.set_comm _ _ e
def wAll (m : Nat) (l : List SEnt80) (s : List SPair) : Option (List SPair) := foldB (fun x s => wSet m x.fv s) l s
theorem loopWait (c : Bool) (ls rs : List SCandidate) (m : Nat) (l : List SEnt80) (s0 : List SPair) {r : List SPair} (h : wAll m l s0 = some r) :
  TV Tryd.prog GG wCode ((xW c ls rs m l s0).D 154).st (fun e st => e = .normal ∧ Gst GG st ((eW c ls rs m r).D 154).st) := by
 rw [eWt]
 have key := TV.rangeMap (P := Tryd.prog) (G := GG) (ty := tySEnt80) (z := 1114370) (b := 700065) (mt := 80) (kt := 81) (et := 3) (n := 154) (ex := true) (l := l) (kd := .i64) (fv := fun x => x.fv) (i29 := 29) (i30 := 30) (i31 := 31) (i32 := 32) (B := 6) (B2 := 7) (ops29 := wOps29) (ops30 := wOps30) (ops31 := wOps31) (ops32 := wOps32)
  (tm := 14) (t0 := 136) (it := 137) (tn := 138) (tb := 139) (te := 140) (tw := 141) (tv := 21) (st := ((xW c ls rs m l s0).D 154).st) (S := fun s => ((eW c ls rs m s).D 154).st) (body := fun x s => wSet m x.fv s) (s0 := s0) (r := r)
  (by kernel_rfl) (by kernel_rfl) (by kernel_rfl) (by kernel_rfl) (by decide) (by decide) (by kernel_rfl) ⟨by decide, by decide⟩ (by decide) rfl rfl rfl (fun x => rfl) (fun s => ⟨rfl, rfl, rfl, rfl, rfl, rfl, rfl⟩)
  (gst_to (eW c ls rs m s0) (by rfl) rfl ⟨by rfl, by rfl⟩) (fun x s s' hs => ?_) (fun x y s => wSet_comm m x.fv y.fv s) h
 ·exact key.mono fun e st hq => ⟨hq.1, by rw [hq.2]; exact Gst.same _⟩
 ·have e : ((eW c ls rs m s).D 154).st.setT 21 (.int .i64 x.fv) = ((xWi c ls rs m x.fv s).D 154).st := by
   refine St.ext' rfl fun l => ?_
   cases l with
   | b j => exact ⟨rfl, rfl⟩
   | t j =>
    show (if j = 21 then V.int .i64 x.fv else tOf wTs j) = tOf (wTs ++ [(21, .int .i64 x.fv)]) j
    unfold tOf
    by_cases hj : j = 21
    ·subst hj; rfl
    ·rw [if_neg hj, List.find?_append]
     cases wTs.find? (fun p => p.1 == j) with
     | some p => rfl
     | none =>
      have : ((21 : Nat) == j) = false := by simpa using fun e => hj e.symm
      simp [this]
  have := (kW c ls rs m x.fv s).tv mixed (r := s') (by rw [gW_run]; exact hs) (by rfl)
  rw [← e] at this
  exact this
noncomputable def subWait (c : Bool) (ls rs : List SCandidate) (m : Nat) (l : List SEnt80) (s : List SPair) : Sub Tryd.prog GG (List SPair) :=
 ⟨wCode, 154, xW c ls rs m l s, wAll m l s, eW c ls rs m, fun _ h => loopWait c ls rs m l s h⟩
end Go.Proofs.YtioobnkmohikjaaDoor
namespace Go.Proofs.YtioobnkmohikjaaDoor
open Go Go.EV
set_option maxRecDepth 100000
noncomputable def g24 (p0 : (List SCandidate)) : TT Unit := .app 3003 tySCandidate [] p0 88 true (by intros; rfl) (.done ())
theorem k24y : Piece Tryd.prog GG [2] 8 (cloneYes Tryd.f24.body) (Ext.lit .normal [(2, .nilsl)] []) (.done () : TT Unit) (fun _ => Ext.lit .ret [(2, .nilsl)] []) := by unfold Piece; kernel_rfl
theorem k24r (p0 : (List SCandidate)) : Piece Tryd.prog GG [0, 2, 5, 6, 7] 8 (cloneRest Tryd.f24.body) (Ext.lit .normal [(0, .sl false 8 (List.map tySCandidate.c p0)), (2, .nilsl)] []) (g24 p0) (fun _ => Ext.of .ret [(2, .ref 7 0 ([] ++ p0).length)] [] [BT.of 7 tySCandidate 8 ([] ++ p0)] (by rfl)) := by unfold Piece; kernel_rfl
theorem k24 (p0 : (List SCandidate)) {r : Unit} (h : (g24 p0).run = some r) : CallC Tryd.prog GG 24 [.sl false 8 (List.map tySCandidate.c p0)] (ofL []) (.ref 7 0 p0.length) (ofL [(7, ⟨8, true, List.map tySCandidate.c p0⟩)]) :=
 clone_ok (ty := tySCandidate) (ops0 := cloneOps0 Tryd.f24.body) (ops1 := cloneOps1 Tryd.f24.body) (yes := cloneYes Tryd.f24.body) (rest := cloneRest Tryd.f24.body) (t := 27) mixed (by decide) Tryd.func24 (by kernel_rfl) (by kernel_rfl) (by kernel_rfl) (by kernel_rfl) (by kernel_rfl) (by kernel_rfl) (by kernel_rfl) (by kernel_rfl) (by kernel_rfl) k24y (k24r p0) (by rfl) h
noncomputable def s24 (p0 : (List SCandidate)) : EV.Spec Tryd.prog GG Unit := ⟨24, [.sl false 8 (List.map tySCandidate.c p0)], [], (g24 p0).run, fun _ => .ref 7 0 p0.length, fun _ => [(7, ⟨8, true, List.map tySCandidate.c p0⟩)], [7], fun _ p hp _ => by
 rw [List.mem_singleton.1 hp]; exact tySCandidate.data _, fun _ h => k24 p0 h⟩
noncomputable def g8 (p0 : (List SCandidate)) (p1 : (List SCandidate)) (p2 : Bool) : TT (SList × Int) :=
 .cnd 1 [29]
 (.br 1005 (decide ((12 : Int) < (mlen tySCandidate p0)))
  (.done true)
  (.done (decide ((12 : Int) < (mlen tySCandidate p1)))))
 (fun (c398 : Bool) => [.bool c398]) fun c398 =>
 .br 0 c398
 (.done ((SList.mk false [] [] []), 3))
 (.cnd 3 [38]
  (.call 3002 (s23 p0) [] [] fun r399 =>
   .br 3005 (!r399)
   (.done true)
   (.call 3006 (s23 p1) [] [] fun r400 =>
    .done (!r400)))
  (fun (c401 : Bool) => [.bool c401]) fun c401 =>
  .br 0 c401
  (.done ((SList.mk false [] [] []), 90))
  (.call 5003 (s24 p0) [] [(7, 500016)] fun r402 =>
   .call 5005 (s24 p1) [] [(7, 500017)] fun r403 =>
   .gh 1 (.ren 47 700061) (.gh 1 (.ren 500016 700062) (.gh 1 (.ren 500017 700063) (.gh 1 (.virtC 900070 9 0 4) (.sub (subPairs p2 p0 p1) fun r404 =>
   .call 10002 (s26 r404.length r404) [(1000000, 900070)] [] fun r415 =>
   .opr 11001 (Rule.makeMap 76 57 1114373 (by decide)) fun _ =>
   .gh 1 (.virtC 600019 700061 3 4) (.bind 0
   (.lp (fun (l420 : (List SEnt76) × (List SPair) × Int) => Ext.of .normal [(6, .ptr 6 0 0), (7, .int .i64 0), (8, .ptr 700061 0 0), (11, .mp 57), (58, .ref 900070 0 r404.length), (59, .int .i64 (r404.length : Int)), (60, .int .i64 l420.2.2)] [(6, ⟨4, true, [[.bool false, .nilsl, .nilsl, .nilsl]]⟩), (700061, ⟨4, true, [[.bool p2, .ref 700062 0 p0.length, .ref 700063 0 p1.length, .ref 600019 0 l420.2.1.length]]⟩)] [BT.of 57 tySEnt76 1114373 l420.1 true, BT.of 600019 tySPair 4 l420.2.1 true, BT.of 700062 tySCandidate 8 p0 true, BT.of 700063 tySCandidate 8 p1 true, BT.of 900070 tySPair 4 r415 true] (by rfl))
    (fun l420 =>
     .br 0 (decide (l420.2.2 < (r404.length : Int)))
     (.chk 14001 (decide (0 ≤ l420.2.2) && decide (l420.2.2 < (r404.length : Int))) (.row 14002 tySPair r415 (0 + l420.2.2.toNat) true fun x421 =>
      .br 0 ((l420.2.1.length : Int) == 36)
      (.done (.inr l420.2.1))
      (.view 16004 (s29 (SPlanner.mk (SList.mk p2 p0 p1 l420.2.1)) x421) [(VwW.of 700062 tySCandidate p0), (VwW.of 700063 tySCandidate p1), (VwW.of 600019 tySPair l420.2.1)] fun r422 =>
       .opr 16005 (Rule.look (mt := 76) (kt := 78) (et := 4) (z := 1114373) (ty := tySEnt76) (p := (fun x => ((decide (r422.fbase.fHost = x.fk.fbase.fHost)) && ((r422.fbase.fPort == x.fk.fbase.fPort) && ((decide (r422.faddr.fHost = x.fk.faddr.fHost)) && ((r422.faddr.fPort == x.fk.faddr.fPort) && ((r422.fcomponent == x.fk.fcomponent) && true))))))) (kc := [.str r422.fbase.fHost, .int .i64 r422.fbase.fPort, .str r422.faddr.fHost, .int .i64 r422.faddr.fPort, .int .i64 r422.fcomponent]) (.tmp 71) (.tmp 74) 75 57 true l420.1 (.bool false) (.bool (mlook l420.1 (fun x => ((decide (r422.fbase.fHost = x.fk.fbase.fHost)) && ((r422.fbase.fPort == x.fk.fbase.fPort) && ((decide (r422.faddr.fHost = x.fk.faddr.fHost)) && ((r422.faddr.fPort == x.fk.faddr.fPort) && ((r422.fcomponent == x.fk.fcomponent) && true)))))) (fun x => x.fv) false)) ⟨by kernel_rfl, by kernel_rfl, by kernel_rfl, fun _ => by kernel_rfl⟩ (by kernel_rfl) (mlook_map _ _ (fun x : SEnt76 => x.fv) false V.bool)) fun _ =>
       .br 0 (mlook l420.1 (fun x => ((decide (r422.fbase.fHost = x.fk.fbase.fHost)) && ((r422.fbase.fPort == x.fk.fbase.fPort) && ((decide (r422.faddr.fHost = x.fk.faddr.fHost)) && ((r422.faddr.fPort == x.fk.faddr.fPort) && ((r422.fcomponent == x.fk.fcomponent) && true)))))) (fun x => x.fv) false)
       (.done (.inl (l420.1, l420.2.1, (wi64 (l420.2.2 + 1)))))
       (.view 17004 (s29 (SPlanner.mk (SList.mk p2 p0 p1 l420.2.1)) x421) [(VwW.of 700062 tySCandidate p0), (VwW.of 700063 tySCandidate p1), (VwW.of 600019 tySPair l420.2.1)] fun r423 =>
        .opr 17005 (Rule.put (mt := 76) (kt := 78) (et := 4) (z := 1114373) (ty := tySEnt76) (p := (fun x => ((decide (r423.fbase.fHost = x.fk.fbase.fHost)) && ((r423.fbase.fPort == x.fk.fbase.fPort) && ((decide (r423.faddr.fHost = x.fk.faddr.fHost)) && ((r423.faddr.fPort == x.fk.faddr.fPort) && ((r423.fcomponent == x.fk.fcomponent) && true))))))) (kc := [.str r423.fbase.fHost, .int .i64 r423.fbase.fPort, .str r423.faddr.fHost, .int .i64 r423.faddr.fPort, .int .i64 r423.fcomponent]) (.tmp 76) (.tmp 79) (.const (.bool true)) 57 l420.1 (SEnt76.mk r423 true) [.bool true] ⟨by kernel_rfl, by kernel_rfl, by kernel_rfl, fun _ => by kernel_rfl⟩ (by rfl) (by kernel_rfl) (by kernel_rfl) (by decide) (by decide)) fun _ =>
        .app 18009 tySPair l420.2.1 [x421] 32 false (by intro h; cases h) (.gh 0 (.drop [600019]) (.gh 0 (.ren 88 600019) (.done (.inl ((mput l420.1 (fun x => ((decide (r423.fbase.fHost = x.fk.fbase.fHost)) && ((r423.fbase.fPort == x.fk.fbase.fPort) && ((decide (r423.faddr.fHost = x.fk.faddr.fHost)) && ((r423.faddr.fPort == x.fk.faddr.fPort) && ((r423.fcomponent == x.fk.fcomponent) && true)))))) (SEnt76.mk r423 true)), (l420.2.1 ++ [x421]), (wi64 (l420.2.2 + 1)))))))))))
     (.done (.inr l420.2.1)))
    ([], [], 0))
   (fun (e424 : (List SPair)) => Ext.of (.exit 2) [(6, .ptr 6 0 0), (7, .int .i64 0), (8, .ptr 700061 0 0)] [(6, ⟨4, true, [[.bool false, .nilsl, .nilsl, .nilsl]]⟩), (700061, ⟨4, true, [[.bool p2, .ref 700062 0 p0.length, .ref 700063 0 p1.length, .ref 600019 0 e424.length]]⟩)] [BT.of 600019 tySPair 4 e424 true, BT.of 700062 tySCandidate 8 p0 true, BT.of 700063 tySCandidate 8 p1 true] (by rfl))
   (fun e424 =>
    .opr 20001 (Rule.makeMap 80 93 1114370 (by decide)) fun _ =>
    .bind 1
    (.lp (fun (l432 : (List SEnt80) × Int) => Ext.of .normal [(6, .ptr 6 0 0), (7, .int .i64 0), (8, .ptr 700061 0 0), (14, .mp 93), (98, .ref 600019 0 e424.length), (99, .int .i64 (e424.length : Int)), (100, .int .i64 l432.2)] [(6, ⟨4, true, [[.bool false, .nilsl, .nilsl, .nilsl]]⟩), (700061, ⟨4, true, [[.bool p2, .ref 700062 0 p0.length, .ref 700063 0 p1.length, .ref 600019 0 e424.length]]⟩)] [BT.of 93 tySEnt80 1114370 l432.1 true, BT.of 600019 tySPair 4 e424 true, BT.of 700062 tySCandidate 8 p0 true, BT.of 700063 tySCandidate 8 p1 true] (by rfl))
     (fun l432 =>
      .br 0 (decide (l432.2 < (e424.length : Int)))
      (.chk 23002 (decide (0 ≤ l432.2) && decide (l432.2 < (e424.length : Int))) (.row 23003 tySPair e424 (0 + l432.2.toNat) true fun x433 =>
       .view 24003 (s30 (SPlanner.mk (SList.mk p2 p0 p1 e424)) x433) [(VwW.of 700062 tySCandidate p0), (VwW.of 700063 tySCandidate p1), (VwW.of 600019 tySPair e424)] fun r434 =>
       .opr 25003 (Rule.look2 (mt := 80) (kt := 81) (et := 3) (z := 1114370) (ty := tySEnt80) (p := (fun x => ((decide (r434.a0 = x.fk.a0)) && ((decide (r434.a1 = x.fk.a1)) && true)))) (kc := [.str r434.a0, .str r434.a1]) (.tmp 109) (.tmp 110) 111 93 true l432.1 (.int .i64 0) (.int .i64 (mlook l432.1 (fun x => ((decide (r434.a0 = x.fk.a0)) && ((decide (r434.a1 = x.fk.a1)) && true))) (fun x => x.fv) 0)) ⟨by kernel_rfl, by kernel_rfl, by kernel_rfl, fun _ => by kernel_rfl⟩ (by kernel_rfl) (mlook_map _ _ (fun x : SEnt80 => x.fv) 0 (V.int .i64))) fun _ =>
       .cnd 26 [131]
       (.br 26004 (!(l432.1.findIdx? (fun x => ((decide (r434.a0 = x.fk.a0)) && ((decide (r434.a1 = x.fk.a1)) && true)))).isSome)
        (.done true)
        (.view 26006 (s31 (SPlanner.mk (SList.mk p2 p0 p1 e424)) x433) [(VwW.of 700062 tySCandidate p0), (VwW.of 700063 tySCandidate p1), (VwW.of 600019 tySPair e424)] fun r435 =>
         .chk 26014 (decide (0 ≤ (mlook l432.1 (fun x => ((decide (r434.a0 = x.fk.a0)) && ((decide (r434.a1 = x.fk.a1)) && true))) (fun x => x.fv) 0)) && decide ((mlook l432.1 (fun x => ((decide (r434.a0 = x.fk.a0)) && ((decide (r434.a1 = x.fk.a1)) && true))) (fun x => x.fv) 0) < (e424.length : Int))) (.row 26015 tySPair e424 (0 + (mlook l432.1 (fun x => ((decide (r434.a0 = x.fk.a0)) && ((decide (r434.a1 = x.fk.a1)) && true))) (fun x => x.fv) 0).toNat) true fun x436 =>
         .view 26016 (s31 (SPlanner.mk (SList.mk p2 p0 p1 e424)) x436) [(VwW.of 700062 tySCandidate p0), (VwW.of 700063 tySCandidate p1), (VwW.of 600019 tySPair e424)] fun r437 =>
         .done (decide (r435 < r437)))))
       (fun (c438 : Bool) => [.bool c438]) fun c438 =>
       .br 0 c438
       (.opr 27004 (Rule.put (mt := 80) (kt := 81) (et := 3) (z := 1114370) (ty := tySEnt80) (p := (fun x => ((decide (r434.a0 = x.fk.a0)) && ((decide (r434.a1 = x.fk.a1)) && true)))) (kc := [.str r434.a0, .str r434.a1]) (.tmp 132) (.tmp 133) (.tmp 134) 93 l432.1 (SEnt80.mk r434 l432.2) [.int .i64 l432.2] ⟨by kernel_rfl, by kernel_rfl, by kernel_rfl, fun _ => by kernel_rfl⟩ (by rfl) (by kernel_rfl) (by kernel_rfl) (by decide) (by decide)) fun _ =>
        .done (.inl ((mput l432.1 (fun x => ((decide (r434.a0 = x.fk.a0)) && ((decide (r434.a1 = x.fk.a1)) && true))) (SEnt80.mk r434 l432.2)), (wi64 (l432.2 + 1)))))
       (.done (.inl (l432.1, (wi64 (l432.2 + 1)))))))
      (.done (.inr l432.1)))
     ([], 0))
    (fun (e439 : (List SEnt80)) => Ext.of (.exit 4) [(6, .ptr 6 0 0), (7, .int .i64 0), (8, .ptr 700061 0 0), (14, .mp 93)] [(6, ⟨4, true, [[.bool false, .nilsl, .nilsl, .nilsl]]⟩), (700061, ⟨4, true, [[.bool p2, .ref 700062 0 p0.length, .ref 700063 0 p1.length, .ref 600019 0 e424.length]]⟩)] [BT.of 93 tySEnt80 1114370 e439 true, BT.of 600019 tySPair 4 e424 true, BT.of 700062 tySCandidate 8 p0 true, BT.of 700063 tySCandidate 8 p1 true] (by rfl))
    (fun e439 =>
     .gh 1 (.ren 600019 700064) (.gh 1 (.ren 93 700065) (.sub (subWait p2 p0 p1 e424.length e439 e424) fun r440 =>
     .gh 0 (.share (VwW.of 700062 tySCandidate p0) 1) (.gh 0 (.share (VwW.of 700063 tySCandidate p1) 1) (.gh 0 (.share (VwW.part 700064 tySPair r440 e424.length) 1) (.done ((SList.mk p2 p0 p1 (r440.take e424.length)), 0)))))))))))))))
theorem k8 (p0 : (List SCandidate)) (p1 : (List SCandidate)) (p2 : Bool) : FnD Tryd.prog GG [0, 1, 2, 6, 7, 8, 9, 10, 11, 13, 14, 15, 16, 17, 18, 19, 21, 29, 38, 49, 50, 58, 59, 60, 61, 70, 75, 98, 99, 100, 101, 131, 139] Tryd.f8 [.sl false 8 (List.map tySCandidate.c p0), .sl false 8 (List.map tySCandidate.c p1), .bool p2] (g8 p0 p1 p2) (fun r => .tup [.agg [.bool r.1.fControlling, .sl false 8 (List.map tySCandidate.c r.1.fLocals), .sl false 8 (List.map tySCandidate.c r.1.fRemotes), .sl false 4 (List.map tySPair.c r.1.fPairs)], .int .i64 r.2]) := by unfold FnD; kernel_rfl
noncomputable def s8 (p0 : (List SCandidate)) (p1 : (List SCandidate)) (p2 : Bool) : EV.Spec Tryd.prog GG (SList × Int) := .ofFn 8 mixed Tryd.func8 (k8 p0 p1 p2)
noncomputable def g8_1 (p0 : Bool) (p1 : (List SCandidate)) (p2 : (List SCandidate)) : TT (Int × Bool × (List SCandidate) × (List SCandidate) × (List SPair)) :=
 .cnd 1 [29]
 (.br 1005 (decide ((12 : Int) < (p1.length : Int)))
  (.done true)
  (.done (decide ((12 : Int) < (p2.length : Int)))))
 (fun (c444 : Bool) => [.bool c444]) fun c444 =>
 .br 0 c444
 (.done (3, false, [], [], []))
 (.cnd 3 [38]
  (.view 3002 (s23 p1) [(VwW.of 1000000 tySCandidate p1)] fun r445 =>
   .br 3005 (!r445)
   (.done true)
   (.view 3006 (s23 p2) [(VwW.of 1000001 tySCandidate p2)] fun r446 =>
    .done (!r446)))
  (fun (c447 : Bool) => [.bool c447]) fun c447 =>
  .br 0 c447
  (.done (90, false, [], [], []))
  (.gh 7 (.share (VwW.of 1000000 tySCandidate p1) 0) (.gh 7 (.share (VwW.of 1000001 tySCandidate p2) 0) (.call 5003 (s24 p1) [] [(7, 500021)] fun r448 =>
   .call 5005 (s24 p2) [] [(7, 500022)] fun r449 =>
   .gh 1 (.ren 47 700061) (.gh 1 (.ren 500021 700062) (.gh 1 (.ren 500022 700063) (.gh 1 (.virtC 900070 9 0 4) (.sub (subPairs p0 p1 p2) fun r450 =>
   .call 10002 (s26 r450.length r450) [(1000000, 900070)] [] fun r461 =>
   .opr 11001 (Rule.makeMap 76 57 1114373 (by decide)) fun _ =>
   .gh 1 (.virtC 600024 700061 3 4) (.bind 0
   (.lp (fun (l466 : (List SEnt76) × (List SPair) × Int) => Ext.of .normal [(6, .ptr 6 0 0), (7, .int .i64 0), (8, .ptr 700061 0 0), (11, .mp 57), (58, .ref 900070 0 r450.length), (59, .int .i64 (r450.length : Int)), (60, .int .i64 l466.2.2)] [(6, ⟨4, true, [[.bool false, .nilsl, .nilsl, .nilsl]]⟩), (700061, ⟨4, true, [[.bool p0, .ref 700062 0 p1.length, .ref 700063 0 p2.length, .ref 600024 0 l466.2.1.length]]⟩)] [BT.of 57 tySEnt76 1114373 l466.1 true, BT.of 600024 tySPair 4 l466.2.1 true, BT.of 700062 tySCandidate 8 p1 true, BT.of 700063 tySCandidate 8 p2 true, BT.of 900070 tySPair 4 r461 true] (by rfl))
    (fun l466 =>
     .br 0 (decide (l466.2.2 < (r450.length : Int)))
     (.chk 14001 (decide (0 ≤ l466.2.2) && decide (l466.2.2 < (r450.length : Int))) (.row 14002 tySPair r461 (0 + l466.2.2.toNat) true fun x467 =>
      .br 0 ((l466.2.1.length : Int) == 36)
      (.done (.inr l466.2.1))
      (.view 16004 (s29 (SPlanner.mk (SList.mk p0 p1 p2 l466.2.1)) x467) [(VwW.of 700062 tySCandidate p1), (VwW.of 700063 tySCandidate p2), (VwW.of 600024 tySPair l466.2.1)] fun r468 =>
       .opr 16005 (Rule.look (mt := 76) (kt := 78) (et := 4) (z := 1114373) (ty := tySEnt76) (p := (fun x => ((decide (r468.fbase.fHost = x.fk.fbase.fHost)) && ((r468.fbase.fPort == x.fk.fbase.fPort) && ((decide (r468.faddr.fHost = x.fk.faddr.fHost)) && ((r468.faddr.fPort == x.fk.faddr.fPort) && ((r468.fcomponent == x.fk.fcomponent) && true))))))) (kc := [.str r468.fbase.fHost, .int .i64 r468.fbase.fPort, .str r468.faddr.fHost, .int .i64 r468.faddr.fPort, .int .i64 r468.fcomponent]) (.tmp 71) (.tmp 74) 75 57 true l466.1 (.bool false) (.bool (mlook l466.1 (fun x => ((decide (r468.fbase.fHost = x.fk.fbase.fHost)) && ((r468.fbase.fPort == x.fk.fbase.fPort) && ((decide (r468.faddr.fHost = x.fk.faddr.fHost)) && ((r468.faddr.fPort == x.fk.faddr.fPort) && ((r468.fcomponent == x.fk.fcomponent) && true)))))) (fun x => x.fv) false)) ⟨by kernel_rfl, by kernel_rfl, by kernel_rfl, fun _ => by kernel_rfl⟩ (by kernel_rfl) (mlook_map _ _ (fun x : SEnt76 => x.fv) false V.bool)) fun _ =>
       .br 0 (mlook l466.1 (fun x => ((decide (r468.fbase.fHost = x.fk.fbase.fHost)) && ((r468.fbase.fPort == x.fk.fbase.fPort) && ((decide (r468.faddr.fHost = x.fk.faddr.fHost)) && ((r468.faddr.fPort == x.fk.faddr.fPort) && ((r468.fcomponent == x.fk.fcomponent) && true)))))) (fun x => x.fv) false)
       (.done (.inl (l466.1, l466.2.1, (wi64 (l466.2.2 + 1)))))
       (.view 17004 (s29 (SPlanner.mk (SList.mk p0 p1 p2 l466.2.1)) x467) [(VwW.of 700062 tySCandidate p1), (VwW.of 700063 tySCandidate p2), (VwW.of 600024 tySPair l466.2.1)] fun r469 =>
        .opr 17005 (Rule.put (mt := 76) (kt := 78) (et := 4) (z := 1114373) (ty := tySEnt76) (p := (fun x => ((decide (r469.fbase.fHost = x.fk.fbase.fHost)) && ((r469.fbase.fPort == x.fk.fbase.fPort) && ((decide (r469.faddr.fHost = x.fk.faddr.fHost)) && ((r469.faddr.fPort == x.fk.faddr.fPort) && ((r469.fcomponent == x.fk.fcomponent) && true))))))) (kc := [.str r469.fbase.fHost, .int .i64 r469.fbase.fPort, .str r469.faddr.fHost, .int .i64 r469.faddr.fPort, .int .i64 r469.fcomponent]) (.tmp 76) (.tmp 79) (.const (.bool true)) 57 l466.1 (SEnt76.mk r469 true) [.bool true] ⟨by kernel_rfl, by kernel_rfl, by kernel_rfl, fun _ => by kernel_rfl⟩ (by rfl) (by kernel_rfl) (by kernel_rfl) (by decide) (by decide)) fun _ =>
        .app 18009 tySPair l466.2.1 [x467] 32 false (by intro h; cases h) (.gh 0 (.drop [600024]) (.gh 0 (.ren 88 600024) (.done (.inl ((mput l466.1 (fun x => ((decide (r469.fbase.fHost = x.fk.fbase.fHost)) && ((r469.fbase.fPort == x.fk.fbase.fPort) && ((decide (r469.faddr.fHost = x.fk.faddr.fHost)) && ((r469.faddr.fPort == x.fk.faddr.fPort) && ((r469.fcomponent == x.fk.fcomponent) && true)))))) (SEnt76.mk r469 true)), (l466.2.1 ++ [x467]), (wi64 (l466.2.2 + 1)))))))))))
     (.done (.inr l466.2.1)))
    ([], [], 0))
   (fun (e470 : (List SPair)) => Ext.of (.exit 2) [(6, .ptr 6 0 0), (7, .int .i64 0), (8, .ptr 700061 0 0)] [(6, ⟨4, true, [[.bool false, .nilsl, .nilsl, .nilsl]]⟩), (700061, ⟨4, true, [[.bool p0, .ref 700062 0 p1.length, .ref 700063 0 p2.length, .ref 600024 0 e470.length]]⟩)] [BT.of 600024 tySPair 4 e470 true, BT.of 700062 tySCandidate 8 p1 true, BT.of 700063 tySCandidate 8 p2 true] (by rfl))
   (fun e470 =>
    .opr 20001 (Rule.makeMap 80 93 1114370 (by decide)) fun _ =>
    .bind 1
    (.lp (fun (l478 : (List SEnt80) × Int) => Ext.of .normal [(6, .ptr 6 0 0), (7, .int .i64 0), (8, .ptr 700061 0 0), (14, .mp 93), (98, .ref 600024 0 e470.length), (99, .int .i64 (e470.length : Int)), (100, .int .i64 l478.2)] [(6, ⟨4, true, [[.bool false, .nilsl, .nilsl, .nilsl]]⟩), (700061, ⟨4, true, [[.bool p0, .ref 700062 0 p1.length, .ref 700063 0 p2.length, .ref 600024 0 e470.length]]⟩)] [BT.of 93 tySEnt80 1114370 l478.1 true, BT.of 600024 tySPair 4 e470 true, BT.of 700062 tySCandidate 8 p1 true, BT.of 700063 tySCandidate 8 p2 true] (by rfl))
     (fun l478 =>
      .br 0 (decide (l478.2 < (e470.length : Int)))
      (.chk 23002 (decide (0 ≤ l478.2) && decide (l478.2 < (e470.length : Int))) (.row 23003 tySPair e470 (0 + l478.2.toNat) true fun x479 =>
       .view 24003 (s30 (SPlanner.mk (SList.mk p0 p1 p2 e470)) x479) [(VwW.of 700062 tySCandidate p1), (VwW.of 700063 tySCandidate p2), (VwW.of 600024 tySPair e470)] fun r480 =>
       .opr 25003 (Rule.look2 (mt := 80) (kt := 81) (et := 3) (z := 1114370) (ty := tySEnt80) (p := (fun x => ((decide (r480.a0 = x.fk.a0)) && ((decide (r480.a1 = x.fk.a1)) && true)))) (kc := [.str r480.a0, .str r480.a1]) (.tmp 109) (.tmp 110) 111 93 true l478.1 (.int .i64 0) (.int .i64 (mlook l478.1 (fun x => ((decide (r480.a0 = x.fk.a0)) && ((decide (r480.a1 = x.fk.a1)) && true))) (fun x => x.fv) 0)) ⟨by kernel_rfl, by kernel_rfl, by kernel_rfl, fun _ => by kernel_rfl⟩ (by kernel_rfl) (mlook_map _ _ (fun x : SEnt80 => x.fv) 0 (V.int .i64))) fun _ =>
       .cnd 26 [131]
       (.br 26004 (!(l478.1.findIdx? (fun x => ((decide (r480.a0 = x.fk.a0)) && ((decide (r480.a1 = x.fk.a1)) && true)))).isSome)
        (.done true)
        (.view 26006 (s31 (SPlanner.mk (SList.mk p0 p1 p2 e470)) x479) [(VwW.of 700062 tySCandidate p1), (VwW.of 700063 tySCandidate p2), (VwW.of 600024 tySPair e470)] fun r481 =>
         .chk 26014 (decide (0 ≤ (mlook l478.1 (fun x => ((decide (r480.a0 = x.fk.a0)) && ((decide (r480.a1 = x.fk.a1)) && true))) (fun x => x.fv) 0)) && decide ((mlook l478.1 (fun x => ((decide (r480.a0 = x.fk.a0)) && ((decide (r480.a1 = x.fk.a1)) && true))) (fun x => x.fv) 0) < (e470.length : Int))) (.row 26015 tySPair e470 (0 + (mlook l478.1 (fun x => ((decide (r480.a0 = x.fk.a0)) && ((decide (r480.a1 = x.fk.a1)) && true))) (fun x => x.fv) 0).toNat) true fun x482 =>
         .view 26016 (s31 (SPlanner.mk (SList.mk p0 p1 p2 e470)) x482) [(VwW.of 700062 tySCandidate p1), (VwW.of 700063 tySCandidate p2), (VwW.of 600024 tySPair e470)] fun r483 =>
         .done (decide (r481 < r483)))))
       (fun (c484 : Bool) => [.bool c484]) fun c484 =>
       .br 0 c484
       (.opr 27004 (Rule.put (mt := 80) (kt := 81) (et := 3) (z := 1114370) (ty := tySEnt80) (p := (fun x => ((decide (r480.a0 = x.fk.a0)) && ((decide (r480.a1 = x.fk.a1)) && true)))) (kc := [.str r480.a0, .str r480.a1]) (.tmp 132) (.tmp 133) (.tmp 134) 93 l478.1 (SEnt80.mk r480 l478.2) [.int .i64 l478.2] ⟨by kernel_rfl, by kernel_rfl, by kernel_rfl, fun _ => by kernel_rfl⟩ (by rfl) (by kernel_rfl) (by kernel_rfl) (by decide) (by decide)) fun _ =>
        .done (.inl ((mput l478.1 (fun x => ((decide (r480.a0 = x.fk.a0)) && ((decide (r480.a1 = x.fk.a1)) && true))) (SEnt80.mk r480 l478.2)), (wi64 (l478.2 + 1)))))
       (.done (.inl (l478.1, (wi64 (l478.2 + 1)))))))
      (.done (.inr l478.1)))
     ([], 0))
    (fun (e485 : (List SEnt80)) => Ext.of (.exit 4) [(6, .ptr 6 0 0), (7, .int .i64 0), (8, .ptr 700061 0 0), (14, .mp 93)] [(6, ⟨4, true, [[.bool false, .nilsl, .nilsl, .nilsl]]⟩), (700061, ⟨4, true, [[.bool p0, .ref 700062 0 p1.length, .ref 700063 0 p2.length, .ref 600024 0 e470.length]]⟩)] [BT.of 93 tySEnt80 1114370 e485 true, BT.of 600024 tySPair 4 e470 true, BT.of 700062 tySCandidate 8 p1 true, BT.of 700063 tySCandidate 8 p2 true] (by rfl))
    (fun e485 =>
     .gh 1 (.ren 600024 700064) (.gh 1 (.ren 93 700065) (.sub (subWait p0 p1 p2 e470.length e485 e470) fun r486 =>
     .gh 0 (.share (VwW.of 700062 tySCandidate p1) 1) (.gh 0 (.share (VwW.of 700063 tySCandidate p2) 1) (.gh 0 (.share (VwW.part 700064 tySPair r486 e470.length) 1) (.done (0, p0, p1, p2, (r486.take e470.length))))))))))))))))))
theorem k8_1 (p0 : Bool) (p1 : (List SCandidate)) (p2 : (List SCandidate)) : FnB Tryd.prog GG [0, 1, 2, 6, 7, 8, 9, 10, 11, 13, 14, 15, 16, 17, 18, 19, 21, 29, 38, 49, 50, 58, 59, 60, 61, 70, 75, 98, 99, 100, 101, 131, 139] Tryd.f8 [.ref 1000000 0 p1.length, .ref 1000001 0 p2.length, .bool p0] (Ext.of .normal (argTs [.ref 1000000 0 p1.length, .ref 1000001 0 p2.length, .bool p0]) [] [BT.of 1000000 tySCandidate 8 p1 true, BT.of 1000001 tySCandidate 8 p2 true] (by rfl)) (g8_1 p0 p1 p2) (fun (r : Int × Bool × (List SCandidate) × (List SCandidate) × (List SPair)) => .tup [.agg [.bool r.2.1, .sl false 8 (List.map tySCandidate.c r.2.2.1), .sl false 8 (List.map tySCandidate.c r.2.2.2.1), .sl false 4 (List.map tySPair.c r.2.2.2.2)], .int .i64 r.1]) (fun (_ : Int × Bool × (List SCandidate) × (List SCandidate) × (List SPair)) => Ext.of .normal [] [] [] (by rfl)) := by unfold FnB; kernel_rfl
noncomputable def s8_1 (p0 : Bool) (p1 : (List SCandidate)) (p2 : (List SCandidate)) : EV.Spec Tryd.prog GG (Int × Bool × (List SCandidate) × (List SCandidate) × (List SPair)) := .ofFnB 8 [] mixed Tryd.func8 rfl (fun _ => rfl) (k8_1 p0 p1 p2)
noncomputable def g14  : TT (SList × Int) :=
 .call 1001 (s15 1 1 2) [] [] fun r441 =>
 .call 1002 (s15 2 1 1) [] [] fun r442 =>
 .call 1004 (s15 9 9 3) [] [] fun r443 =>
 .call 1006 (s8_1 true [r441, r442] [r443]) [(1000000, 4), (1000001, 6)] [] fun r487 =>
 .done ((SList.mk r487.2.1 r487.2.2.1 r487.2.2.2.1 r487.2.2.2.2), r487.1)
theorem k14  : FnD Tryd.prog GG [0, 1] Tryd.f14 [] (g14) (fun r => .tup [.agg [.bool r.1.fControlling, .sl false 8 (List.map tySCandidate.c r.1.fLocals), .sl false 8 (List.map tySCandidate.c r.1.fRemotes), .sl false 4 (List.map tySPair.c r.1.fPairs)], .int .i64 r.2]) := by unfold FnD; kernel_rfl
noncomputable def s14  : EV.Spec Tryd.prog GG (SList × Int) := .ofFn 14 mixed Tryd.func14 (k14)
end Go.Proofs.YtioobnkmohikjaaDoor
namespace Go.Proofs.YtioobnkmohikjaaDoor
open Go Go.EV
set_option maxRecDepth 100000
noncomputable def g6  : TT (Bool) :=
 .call 1001 s14 [] [] fun r488 =>
 .call 2002 (s17 r488.1) [] [] fun r489 =>
 .call 3002 (s16 r488.1 0 2) [] [] fun r490 =>
 .call 4002 (s17 r490.1) [] [] fun r491 =>
 .call 5002 (s12 r488.1) [] [] fun r492 =>
 .call 6002 (s18 r488.1) [] [] fun r493 =>
 .cnd 7 [0]
 (.br 7004 (r488.2 == 0)
  (.br 7010 ((mlen tySPair r488.1.fPairs) == 2)
   (.call 7011 (s21 r488.1 0 0 0 1) [] [] fun r494 =>
    .br 7014 r494
    (.call 7015 (s21 r488.1 1 1 0 1) [] [] fun r495 =>
     .br 7018 r495
     (.br 7022 (r489.2 == 0)
      (.br 7026 (r489.1 == 0)
       (.br 7030 (r490.2 == 0)
        (.br 7034 (r491.2 == 0)
         (.br 7038 (r491.1 == 1)
          (.br 7042 (r492.2 == 0)
           (.br 7047 (!r492.1.fControlling)
            (.br 7051 (r493.2 == 0)
             (.br 7055 (!r493.1)
              (.call 7056 (s19 r488.1) [] [] fun r496 =>
               .br 7060 (r496 == 0)
               (.view 7063 (s19 (SList.mk false [] [] [(SPair.mk 0 0 0 0)])) [] fun r497 =>
                .done (r497 == 100))
               (.done false))
              (.done false))
             (.done false))
            (.done false))
           (.done false))
          (.done false))
         (.done false))
        (.done false))
       (.done false))
      (.done false))
     (.done false))
    (.done false))
   (.done false))
  (.done false))
 (fun (c498 : Bool) => [.bool c498]) fun c498 =>
 .done c498
theorem k6  : FnD Tryd.prog GG [0, 1, 2, 3, 4, 5, 6, 7, 8, 9, 10, 11, 12] Tryd.f6 [] (g6) (fun r => .bool r) := by unfold FnD; kernel_rfl
noncomputable def s6  : EV.Spec Tryd.prog GG (Bool) := .ofFn 6 mixed Tryd.func6 (k6)
end Go.Proofs.YtioobnkmohikjaaDoor
namespace Go.Proofs.YtioobnkmohikjaaDoor
open Go Go.EV
set_option maxRecDepth 100000
noncomputable def g8_2 (p0 : (List SCandidate)) (p1 : Bool) (p2 : (List SCandidate)) : TT (Int × Bool × (List SCandidate) × (List SCandidate) × (List SPair)) :=
 .cnd 1 [29]
 (.br 1005 (decide ((12 : Int) < (p2.length : Int)))
  (.done true)
  (.done (decide ((12 : Int) < (mlen tySCandidate p0)))))
 (fun (c513 : Bool) => [.bool c513]) fun c513 =>
 .br 0 c513
 (.done (3, false, [], [], []))
 (.cnd 3 [38]
  (.view 3002 (s23 p2) [(VwW.of 1000000 tySCandidate p2)] fun r514 =>
   .br 3005 (!r514)
   (.done true)
   (.call 3006 (s23 p0) [] [] fun r515 =>
    .done (!r515)))
  (fun (c516 : Bool) => [.bool c516]) fun c516 =>
  .br 0 c516
  (.done (90, false, [], [], []))
  (.gh 7 (.share (VwW.of 1000000 tySCandidate p2) 0) (.call 5003 (s24 p2) [] [(7, 500025)] fun r517 =>
   .call 5005 (s24 p0) [] [(7, 500026)] fun r518 =>
   .gh 1 (.ren 47 700061) (.gh 1 (.ren 500025 700062) (.gh 1 (.ren 500026 700063) (.gh 1 (.virtC 900070 9 0 4) (.sub (subPairs p1 p2 p0) fun r519 =>
   .call 10002 (s26 r519.length r519) [(1000000, 900070)] [] fun r530 =>
   .opr 11001 (Rule.makeMap 76 57 1114373 (by decide)) fun _ =>
   .gh 1 (.virtC 600028 700061 3 4) (.bind 0
   (.lp (fun (l535 : (List SEnt76) × (List SPair) × Int) => Ext.of .normal [(6, .ptr 6 0 0), (7, .int .i64 0), (8, .ptr 700061 0 0), (11, .mp 57), (58, .ref 900070 0 r519.length), (59, .int .i64 (r519.length : Int)), (60, .int .i64 l535.2.2)] [(6, ⟨4, true, [[.bool false, .nilsl, .nilsl, .nilsl]]⟩), (700061, ⟨4, true, [[.bool p1, .ref 700062 0 p2.length, .ref 700063 0 p0.length, .ref 600028 0 l535.2.1.length]]⟩)] [BT.of 57 tySEnt76 1114373 l535.1 true, BT.of 600028 tySPair 4 l535.2.1 true, BT.of 700062 tySCandidate 8 p2 true, BT.of 700063 tySCandidate 8 p0 true, BT.of 900070 tySPair 4 r530 true] (by rfl))
    (fun l535 =>
     .br 0 (decide (l535.2.2 < (r519.length : Int)))
     (.chk 14001 (decide (0 ≤ l535.2.2) && decide (l535.2.2 < (r519.length : Int))) (.row 14002 tySPair r530 (0 + l535.2.2.toNat) true fun x536 =>
      .br 0 ((l535.2.1.length : Int) == 36)
      (.done (.inr l535.2.1))
      (.view 16004 (s29 (SPlanner.mk (SList.mk p1 p2 p0 l535.2.1)) x536) [(VwW.of 700062 tySCandidate p2), (VwW.of 700063 tySCandidate p0), (VwW.of 600028 tySPair l535.2.1)] fun r537 =>
       .opr 16005 (Rule.look (mt := 76) (kt := 78) (et := 4) (z := 1114373) (ty := tySEnt76) (p := (fun x => ((decide (r537.fbase.fHost = x.fk.fbase.fHost)) && ((r537.fbase.fPort == x.fk.fbase.fPort) && ((decide (r537.faddr.fHost = x.fk.faddr.fHost)) && ((r537.faddr.fPort == x.fk.faddr.fPort) && ((r537.fcomponent == x.fk.fcomponent) && true))))))) (kc := [.str r537.fbase.fHost, .int .i64 r537.fbase.fPort, .str r537.faddr.fHost, .int .i64 r537.faddr.fPort, .int .i64 r537.fcomponent]) (.tmp 71) (.tmp 74) 75 57 true l535.1 (.bool false) (.bool (mlook l535.1 (fun x => ((decide (r537.fbase.fHost = x.fk.fbase.fHost)) && ((r537.fbase.fPort == x.fk.fbase.fPort) && ((decide (r537.faddr.fHost = x.fk.faddr.fHost)) && ((r537.faddr.fPort == x.fk.faddr.fPort) && ((r537.fcomponent == x.fk.fcomponent) && true)))))) (fun x => x.fv) false)) ⟨by kernel_rfl, by kernel_rfl, by kernel_rfl, fun _ => by kernel_rfl⟩ (by kernel_rfl) (mlook_map _ _ (fun x : SEnt76 => x.fv) false V.bool)) fun _ =>
       .br 0 (mlook l535.1 (fun x => ((decide (r537.fbase.fHost = x.fk.fbase.fHost)) && ((r537.fbase.fPort == x.fk.fbase.fPort) && ((decide (r537.faddr.fHost = x.fk.faddr.fHost)) && ((r537.faddr.fPort == x.fk.faddr.fPort) && ((r537.fcomponent == x.fk.fcomponent) && true)))))) (fun x => x.fv) false)
       (.done (.inl (l535.1, l535.2.1, (wi64 (l535.2.2 + 1)))))
       (.view 17004 (s29 (SPlanner.mk (SList.mk p1 p2 p0 l535.2.1)) x536) [(VwW.of 700062 tySCandidate p2), (VwW.of 700063 tySCandidate p0), (VwW.of 600028 tySPair l535.2.1)] fun r538 =>
        .opr 17005 (Rule.put (mt := 76) (kt := 78) (et := 4) (z := 1114373) (ty := tySEnt76) (p := (fun x => ((decide (r538.fbase.fHost = x.fk.fbase.fHost)) && ((r538.fbase.fPort == x.fk.fbase.fPort) && ((decide (r538.faddr.fHost = x.fk.faddr.fHost)) && ((r538.faddr.fPort == x.fk.faddr.fPort) && ((r538.fcomponent == x.fk.fcomponent) && true))))))) (kc := [.str r538.fbase.fHost, .int .i64 r538.fbase.fPort, .str r538.faddr.fHost, .int .i64 r538.faddr.fPort, .int .i64 r538.fcomponent]) (.tmp 76) (.tmp 79) (.const (.bool true)) 57 l535.1 (SEnt76.mk r538 true) [.bool true] ⟨by kernel_rfl, by kernel_rfl, by kernel_rfl, fun _ => by kernel_rfl⟩ (by rfl) (by kernel_rfl) (by kernel_rfl) (by decide) (by decide)) fun _ =>
        .app 18009 tySPair l535.2.1 [x536] 32 false (by intro h; cases h) (.gh 0 (.drop [600028]) (.gh 0 (.ren 88 600028) (.done (.inl ((mput l535.1 (fun x => ((decide (r538.fbase.fHost = x.fk.fbase.fHost)) && ((r538.fbase.fPort == x.fk.fbase.fPort) && ((decide (r538.faddr.fHost = x.fk.faddr.fHost)) && ((r538.faddr.fPort == x.fk.faddr.fPort) && ((r538.fcomponent == x.fk.fcomponent) && true)))))) (SEnt76.mk r538 true)), (l535.2.1 ++ [x536]), (wi64 (l535.2.2 + 1)))))))))))
     (.done (.inr l535.2.1)))
    ([], [], 0))
   (fun (e539 : (List SPair)) => Ext.of (.exit 2) [(6, .ptr 6 0 0), (7, .int .i64 0), (8, .ptr 700061 0 0)] [(6, ⟨4, true, [[.bool false, .nilsl, .nilsl, .nilsl]]⟩), (700061, ⟨4, true, [[.bool p1, .ref 700062 0 p2.length, .ref 700063 0 p0.length, .ref 600028 0 e539.length]]⟩)] [BT.of 600028 tySPair 4 e539 true, BT.of 700062 tySCandidate 8 p2 true, BT.of 700063 tySCandidate 8 p0 true] (by rfl))
   (fun e539 =>
    .opr 20001 (Rule.makeMap 80 93 1114370 (by decide)) fun _ =>
    .bind 1
    (.lp (fun (l547 : (List SEnt80) × Int) => Ext.of .normal [(6, .ptr 6 0 0), (7, .int .i64 0), (8, .ptr 700061 0 0), (14, .mp 93), (98, .ref 600028 0 e539.length), (99, .int .i64 (e539.length : Int)), (100, .int .i64 l547.2)] [(6, ⟨4, true, [[.bool false, .nilsl, .nilsl, .nilsl]]⟩), (700061, ⟨4, true, [[.bool p1, .ref 700062 0 p2.length, .ref 700063 0 p0.length, .ref 600028 0 e539.length]]⟩)] [BT.of 93 tySEnt80 1114370 l547.1 true, BT.of 600028 tySPair 4 e539 true, BT.of 700062 tySCandidate 8 p2 true, BT.of 700063 tySCandidate 8 p0 true] (by rfl))
     (fun l547 =>
      .br 0 (decide (l547.2 < (e539.length : Int)))
      (.chk 23002 (decide (0 ≤ l547.2) && decide (l547.2 < (e539.length : Int))) (.row 23003 tySPair e539 (0 + l547.2.toNat) true fun x548 =>
       .view 24003 (s30 (SPlanner.mk (SList.mk p1 p2 p0 e539)) x548) [(VwW.of 700062 tySCandidate p2), (VwW.of 700063 tySCandidate p0), (VwW.of 600028 tySPair e539)] fun r549 =>
       .opr 25003 (Rule.look2 (mt := 80) (kt := 81) (et := 3) (z := 1114370) (ty := tySEnt80) (p := (fun x => ((decide (r549.a0 = x.fk.a0)) && ((decide (r549.a1 = x.fk.a1)) && true)))) (kc := [.str r549.a0, .str r549.a1]) (.tmp 109) (.tmp 110) 111 93 true l547.1 (.int .i64 0) (.int .i64 (mlook l547.1 (fun x => ((decide (r549.a0 = x.fk.a0)) && ((decide (r549.a1 = x.fk.a1)) && true))) (fun x => x.fv) 0)) ⟨by kernel_rfl, by kernel_rfl, by kernel_rfl, fun _ => by kernel_rfl⟩ (by kernel_rfl) (mlook_map _ _ (fun x : SEnt80 => x.fv) 0 (V.int .i64))) fun _ =>
       .cnd 26 [131]
       (.br 26004 (!(l547.1.findIdx? (fun x => ((decide (r549.a0 = x.fk.a0)) && ((decide (r549.a1 = x.fk.a1)) && true)))).isSome)
        (.done true)
        (.view 26006 (s31 (SPlanner.mk (SList.mk p1 p2 p0 e539)) x548) [(VwW.of 700062 tySCandidate p2), (VwW.of 700063 tySCandidate p0), (VwW.of 600028 tySPair e539)] fun r550 =>
         .chk 26014 (decide (0 ≤ (mlook l547.1 (fun x => ((decide (r549.a0 = x.fk.a0)) && ((decide (r549.a1 = x.fk.a1)) && true))) (fun x => x.fv) 0)) && decide ((mlook l547.1 (fun x => ((decide (r549.a0 = x.fk.a0)) && ((decide (r549.a1 = x.fk.a1)) && true))) (fun x => x.fv) 0) < (e539.length : Int))) (.row 26015 tySPair e539 (0 + (mlook l547.1 (fun x => ((decide (r549.a0 = x.fk.a0)) && ((decide (r549.a1 = x.fk.a1)) && true))) (fun x => x.fv) 0).toNat) true fun x551 =>
         .view 26016 (s31 (SPlanner.mk (SList.mk p1 p2 p0 e539)) x551) [(VwW.of 700062 tySCandidate p2), (VwW.of 700063 tySCandidate p0), (VwW.of 600028 tySPair e539)] fun r552 =>
         .done (decide (r550 < r552)))))
       (fun (c553 : Bool) => [.bool c553]) fun c553 =>
       .br 0 c553
       (.opr 27004 (Rule.put (mt := 80) (kt := 81) (et := 3) (z := 1114370) (ty := tySEnt80) (p := (fun x => ((decide (r549.a0 = x.fk.a0)) && ((decide (r549.a1 = x.fk.a1)) && true)))) (kc := [.str r549.a0, .str r549.a1]) (.tmp 132) (.tmp 133) (.tmp 134) 93 l547.1 (SEnt80.mk r549 l547.2) [.int .i64 l547.2] ⟨by kernel_rfl, by kernel_rfl, by kernel_rfl, fun _ => by kernel_rfl⟩ (by rfl) (by kernel_rfl) (by kernel_rfl) (by decide) (by decide)) fun _ =>
        .done (.inl ((mput l547.1 (fun x => ((decide (r549.a0 = x.fk.a0)) && ((decide (r549.a1 = x.fk.a1)) && true))) (SEnt80.mk r549 l547.2)), (wi64 (l547.2 + 1)))))
       (.done (.inl (l547.1, (wi64 (l547.2 + 1)))))))
      (.done (.inr l547.1)))
     ([], 0))
    (fun (e554 : (List SEnt80)) => Ext.of (.exit 4) [(6, .ptr 6 0 0), (7, .int .i64 0), (8, .ptr 700061 0 0), (14, .mp 93)] [(6, ⟨4, true, [[.bool false, .nilsl, .nilsl, .nilsl]]⟩), (700061, ⟨4, true, [[.bool p1, .ref 700062 0 p2.length, .ref 700063 0 p0.length, .ref 600028 0 e539.length]]⟩)] [BT.of 93 tySEnt80 1114370 e554 true, BT.of 600028 tySPair 4 e539 true, BT.of 700062 tySCandidate 8 p2 true, BT.of 700063 tySCandidate 8 p0 true] (by rfl))
    (fun e554 =>
     .gh 1 (.ren 600028 700064) (.gh 1 (.ren 93 700065) (.sub (subWait p1 p2 p0 e539.length e554 e539) fun r555 =>
     .gh 0 (.share (VwW.of 700062 tySCandidate p2) 1) (.gh 0 (.share (VwW.of 700063 tySCandidate p0) 1) (.gh 0 (.share (VwW.part 700064 tySPair r555 e539.length) 1) (.done (0, p1, p2, p0, (r555.take e539.length)))))))))))))))))
theorem k8_2 (p0 : (List SCandidate)) (p1 : Bool) (p2 : (List SCandidate)) : FnB Tryd.prog GG [0, 1, 2, 6, 7, 8, 9, 10, 11, 13, 14, 15, 16, 17, 18, 19, 21, 29, 38, 49, 50, 58, 59, 60, 61, 70, 75, 98, 99, 100, 101, 131, 139] Tryd.f8 [.ref 1000000 0 p2.length, .sl false 8 (List.map tySCandidate.c p0), .bool p1] (Ext.of .normal (argTs [.ref 1000000 0 p2.length, .sl false 8 (List.map tySCandidate.c p0), .bool p1]) [] [BT.of 1000000 tySCandidate 8 p2 true] (by rfl)) (g8_2 p0 p1 p2) (fun (r : Int × Bool × (List SCandidate) × (List SCandidate) × (List SPair)) => .tup [.agg [.bool r.2.1, .sl false 8 (List.map tySCandidate.c r.2.2.1), .sl false 8 (List.map tySCandidate.c r.2.2.2.1), .sl false 4 (List.map tySPair.c r.2.2.2.2)], .int .i64 r.1]) (fun (_ : Int × Bool × (List SCandidate) × (List SCandidate) × (List SPair)) => Ext.of .normal [] [] [] (by rfl)) := by unfold FnB; kernel_rfl
noncomputable def s8_2 (p0 : (List SCandidate)) (p1 : Bool) (p2 : (List SCandidate)) : EV.Spec Tryd.prog GG (Int × Bool × (List SCandidate) × (List SCandidate) × (List SPair)) := .ofFnB 8 [] mixed Tryd.func8 rfl (fun _ => rfl) (k8_2 p0 p1 p2)
noncomputable def g8_3 (p0 : (List SCandidate)) (p1 : Bool) (p2 : (List SCandidate)) : TT (Int × Bool × (List SCandidate) × (List SCandidate) × (List SPair)) :=
 .cnd 1 [29]
 (.br 1005 (decide ((12 : Int) < (mlen tySCandidate p0)))
  (.done true)
  (.done (decide ((12 : Int) < (p2.length : Int)))))
 (fun (c557 : Bool) => [.bool c557]) fun c557 =>
 .br 0 c557
 (.done (3, false, [], [], []))
 (.cnd 3 [38]
  (.call 3002 (s23 p0) [] [] fun r558 =>
   .br 3005 (!r558)
   (.done true)
   (.view 3006 (s23 p2) [(VwW.of 1000000 tySCandidate p2)] fun r559 =>
    .done (!r559)))
  (fun (c560 : Bool) => [.bool c560]) fun c560 =>
  .br 0 c560
  (.done (90, false, [], [], []))
  (.gh 7 (.share (VwW.of 1000000 tySCandidate p2) 0) (.call 5003 (s24 p0) [] [(7, 500030)] fun r561 =>
   .call 5005 (s24 p2) [] [(7, 500031)] fun r562 =>
   .gh 1 (.ren 47 700061) (.gh 1 (.ren 500030 700062) (.gh 1 (.ren 500031 700063) (.gh 1 (.virtC 900070 9 0 4) (.sub (subPairs p1 p0 p2) fun r563 =>
   .call 10002 (s26 r563.length r563) [(1000000, 900070)] [] fun r574 =>
   .opr 11001 (Rule.makeMap 76 57 1114373 (by decide)) fun _ =>
   .gh 1 (.virtC 600033 700061 3 4) (.bind 0
   (.lp (fun (l579 : (List SEnt76) × (List SPair) × Int) => Ext.of .normal [(6, .ptr 6 0 0), (7, .int .i64 0), (8, .ptr 700061 0 0), (11, .mp 57), (58, .ref 900070 0 r563.length), (59, .int .i64 (r563.length : Int)), (60, .int .i64 l579.2.2)] [(6, ⟨4, true, [[.bool false, .nilsl, .nilsl, .nilsl]]⟩), (700061, ⟨4, true, [[.bool p1, .ref 700062 0 p0.length, .ref 700063 0 p2.length, .ref 600033 0 l579.2.1.length]]⟩)] [BT.of 57 tySEnt76 1114373 l579.1 true, BT.of 600033 tySPair 4 l579.2.1 true, BT.of 700062 tySCandidate 8 p0 true, BT.of 700063 tySCandidate 8 p2 true, BT.of 900070 tySPair 4 r574 true] (by rfl))
    (fun l579 =>
     .br 0 (decide (l579.2.2 < (r563.length : Int)))
     (.chk 14001 (decide (0 ≤ l579.2.2) && decide (l579.2.2 < (r563.length : Int))) (.row 14002 tySPair r574 (0 + l579.2.2.toNat) true fun x580 =>
      .br 0 ((l579.2.1.length : Int) == 36)
      (.done (.inr l579.2.1))
      (.view 16004 (s29 (SPlanner.mk (SList.mk p1 p0 p2 l579.2.1)) x580) [(VwW.of 700062 tySCandidate p0), (VwW.of 700063 tySCandidate p2), (VwW.of 600033 tySPair l579.2.1)] fun r581 =>
       .opr 16005 (Rule.look (mt := 76) (kt := 78) (et := 4) (z := 1114373) (ty := tySEnt76) (p := (fun x => ((decide (r581.fbase.fHost = x.fk.fbase.fHost)) && ((r581.fbase.fPort == x.fk.fbase.fPort) && ((decide (r581.faddr.fHost = x.fk.faddr.fHost)) && ((r581.faddr.fPort == x.fk.faddr.fPort) && ((r581.fcomponent == x.fk.fcomponent) && true))))))) (kc := [.str r581.fbase.fHost, .int .i64 r581.fbase.fPort, .str r581.faddr.fHost, .int .i64 r581.faddr.fPort, .int .i64 r581.fcomponent]) (.tmp 71) (.tmp 74) 75 57 true l579.1 (.bool false) (.bool (mlook l579.1 (fun x => ((decide (r581.fbase.fHost = x.fk.fbase.fHost)) && ((r581.fbase.fPort == x.fk.fbase.fPort) && ((decide (r581.faddr.fHost = x.fk.faddr.fHost)) && ((r581.faddr.fPort == x.fk.faddr.fPort) && ((r581.fcomponent == x.fk.fcomponent) && true)))))) (fun x => x.fv) false)) ⟨by kernel_rfl, by kernel_rfl, by kernel_rfl, fun _ => by kernel_rfl⟩ (by kernel_rfl) (mlook_map _ _ (fun x : SEnt76 => x.fv) false V.bool)) fun _ =>
       .br 0 (mlook l579.1 (fun x => ((decide (r581.fbase.fHost = x.fk.fbase.fHost)) && ((r581.fbase.fPort == x.fk.fbase.fPort) && ((decide (r581.faddr.fHost = x.fk.faddr.fHost)) && ((r581.faddr.fPort == x.fk.faddr.fPort) && ((r581.fcomponent == x.fk.fcomponent) && true)))))) (fun x => x.fv) false)
       (.done (.inl (l579.1, l579.2.1, (wi64 (l579.2.2 + 1)))))
       (.view 17004 (s29 (SPlanner.mk (SList.mk p1 p0 p2 l579.2.1)) x580) [(VwW.of 700062 tySCandidate p0), (VwW.of 700063 tySCandidate p2), (VwW.of 600033 tySPair l579.2.1)] fun r582 =>
        .opr 17005 (Rule.put (mt := 76) (kt := 78) (et := 4) (z := 1114373) (ty := tySEnt76) (p := (fun x => ((decide (r582.fbase.fHost = x.fk.fbase.fHost)) && ((r582.fbase.fPort == x.fk.fbase.fPort) && ((decide (r582.faddr.fHost = x.fk.faddr.fHost)) && ((r582.faddr.fPort == x.fk.faddr.fPort) && ((r582.fcomponent == x.fk.fcomponent) && true))))))) (kc := [.str r582.fbase.fHost, .int .i64 r582.fbase.fPort, .str r582.faddr.fHost, .int .i64 r582.faddr.fPort, .int .i64 r582.fcomponent]) (.tmp 76) (.tmp 79) (.const (.bool true)) 57 l579.1 (SEnt76.mk r582 true) [.bool true] ⟨by kernel_rfl, by kernel_rfl, by kernel_rfl, fun _ => by kernel_rfl⟩ (by rfl) (by kernel_rfl) (by kernel_rfl) (by decide) (by decide)) fun _ =>
        .app 18009 tySPair l579.2.1 [x580] 32 false (by intro h; cases h) (.gh 0 (.drop [600033]) (.gh 0 (.ren 88 600033) (.done (.inl ((mput l579.1 (fun x => ((decide (r582.fbase.fHost = x.fk.fbase.fHost)) && ((r582.fbase.fPort == x.fk.fbase.fPort) && ((decide (r582.faddr.fHost = x.fk.faddr.fHost)) && ((r582.faddr.fPort == x.fk.faddr.fPort) && ((r582.fcomponent == x.fk.fcomponent) && true)))))) (SEnt76.mk r582 true)), (l579.2.1 ++ [x580]), (wi64 (l579.2.2 + 1)))))))))))
     (.done (.inr l579.2.1)))
    ([], [], 0))
   (fun (e583 : (List SPair)) => Ext.of (.exit 2) [(6, .ptr 6 0 0), (7, .int .i64 0), (8, .ptr 700061 0 0)] [(6, ⟨4, true, [[.bool false, .nilsl, .nilsl, .nilsl]]⟩), (700061, ⟨4, true, [[.bool p1, .ref 700062 0 p0.length, .ref 700063 0 p2.length, .ref 600033 0 e583.length]]⟩)] [BT.of 600033 tySPair 4 e583 true, BT.of 700062 tySCandidate 8 p0 true, BT.of 700063 tySCandidate 8 p2 true] (by rfl))
   (fun e583 =>
    .opr 20001 (Rule.makeMap 80 93 1114370 (by decide)) fun _ =>
    .bind 1
    (.lp (fun (l591 : (List SEnt80) × Int) => Ext.of .normal [(6, .ptr 6 0 0), (7, .int .i64 0), (8, .ptr 700061 0 0), (14, .mp 93), (98, .ref 600033 0 e583.length), (99, .int .i64 (e583.length : Int)), (100, .int .i64 l591.2)] [(6, ⟨4, true, [[.bool false, .nilsl, .nilsl, .nilsl]]⟩), (700061, ⟨4, true, [[.bool p1, .ref 700062 0 p0.length, .ref 700063 0 p2.length, .ref 600033 0 e583.length]]⟩)] [BT.of 93 tySEnt80 1114370 l591.1 true, BT.of 600033 tySPair 4 e583 true, BT.of 700062 tySCandidate 8 p0 true, BT.of 700063 tySCandidate 8 p2 true] (by rfl))
     (fun l591 =>
      .br 0 (decide (l591.2 < (e583.length : Int)))
      (.chk 23002 (decide (0 ≤ l591.2) && decide (l591.2 < (e583.length : Int))) (.row 23003 tySPair e583 (0 + l591.2.toNat) true fun x592 =>
       .view 24003 (s30 (SPlanner.mk (SList.mk p1 p0 p2 e583)) x592) [(VwW.of 700062 tySCandidate p0), (VwW.of 700063 tySCandidate p2), (VwW.of 600033 tySPair e583)] fun r593 =>
       .opr 25003 (Rule.look2 (mt := 80) (kt := 81) (et := 3) (z := 1114370) (ty := tySEnt80) (p := (fun x => ((decide (r593.a0 = x.fk.a0)) && ((decide (r593.a1 = x.fk.a1)) && true)))) (kc := [.str r593.a0, .str r593.a1]) (.tmp 109) (.tmp 110) 111 93 true l591.1 (.int .i64 0) (.int .i64 (mlook l591.1 (fun x => ((decide (r593.a0 = x.fk.a0)) && ((decide (r593.a1 = x.fk.a1)) && true))) (fun x => x.fv) 0)) ⟨by kernel_rfl, by kernel_rfl, by kernel_rfl, fun _ => by kernel_rfl⟩ (by kernel_rfl) (mlook_map _ _ (fun x : SEnt80 => x.fv) 0 (V.int .i64))) fun _ =>
       .cnd 26 [131]
       (.br 26004 (!(l591.1.findIdx? (fun x => ((decide (r593.a0 = x.fk.a0)) && ((decide (r593.a1 = x.fk.a1)) && true)))).isSome)
        (.done true)
        (.view 26006 (s31 (SPlanner.mk (SList.mk p1 p0 p2 e583)) x592) [(VwW.of 700062 tySCandidate p0), (VwW.of 700063 tySCandidate p2), (VwW.of 600033 tySPair e583)] fun r594 =>
         .chk 26014 (decide (0 ≤ (mlook l591.1 (fun x => ((decide (r593.a0 = x.fk.a0)) && ((decide (r593.a1 = x.fk.a1)) && true))) (fun x => x.fv) 0)) && decide ((mlook l591.1 (fun x => ((decide (r593.a0 = x.fk.a0)) && ((decide (r593.a1 = x.fk.a1)) && true))) (fun x => x.fv) 0) < (e583.length : Int))) (.row 26015 tySPair e583 (0 + (mlook l591.1 (fun x => ((decide (r593.a0 = x.fk.a0)) && ((decide (r593.a1 = x.fk.a1)) && true))) (fun x => x.fv) 0).toNat) true fun x595 =>
         .view 26016 (s31 (SPlanner.mk (SList.mk p1 p0 p2 e583)) x595) [(VwW.of 700062 tySCandidate p0), (VwW.of 700063 tySCandidate p2), (VwW.of 600033 tySPair e583)] fun r596 =>
         .done (decide (r594 < r596)))))
       (fun (c597 : Bool) => [.bool c597]) fun c597 =>
       .br 0 c597
       (.opr 27004 (Rule.put (mt := 80) (kt := 81) (et := 3) (z := 1114370) (ty := tySEnt80) (p := (fun x => ((decide (r593.a0 = x.fk.a0)) && ((decide (r593.a1 = x.fk.a1)) && true)))) (kc := [.str r593.a0, .str r593.a1]) (.tmp 132) (.tmp 133) (.tmp 134) 93 l591.1 (SEnt80.mk r593 l591.2) [.int .i64 l591.2] ⟨by kernel_rfl, by kernel_rfl, by kernel_rfl, fun _ => by kernel_rfl⟩ (by rfl) (by kernel_rfl) (by kernel_rfl) (by decide) (by decide)) fun _ =>
        .done (.inl ((mput l591.1 (fun x => ((decide (r593.a0 = x.fk.a0)) && ((decide (r593.a1 = x.fk.a1)) && true))) (SEnt80.mk r593 l591.2)), (wi64 (l591.2 + 1)))))
       (.done (.inl (l591.1, (wi64 (l591.2 + 1)))))))
      (.done (.inr l591.1)))
     ([], 0))
    (fun (e598 : (List SEnt80)) => Ext.of (.exit 4) [(6, .ptr 6 0 0), (7, .int .i64 0), (8, .ptr 700061 0 0), (14, .mp 93)] [(6, ⟨4, true, [[.bool false, .nilsl, .nilsl, .nilsl]]⟩), (700061, ⟨4, true, [[.bool p1, .ref 700062 0 p0.length, .ref 700063 0 p2.length, .ref 600033 0 e583.length]]⟩)] [BT.of 93 tySEnt80 1114370 e598 true, BT.of 600033 tySPair 4 e583 true, BT.of 700062 tySCandidate 8 p0 true, BT.of 700063 tySCandidate 8 p2 true] (by rfl))
    (fun e598 =>
     .gh 1 (.ren 600033 700064) (.gh 1 (.ren 93 700065) (.sub (subWait p1 p0 p2 e583.length e598 e583) fun r599 =>
     .gh 0 (.share (VwW.of 700062 tySCandidate p0) 1) (.gh 0 (.share (VwW.of 700063 tySCandidate p2) 1) (.gh 0 (.share (VwW.part 700064 tySPair r599 e583.length) 1) (.done (0, p1, p0, p2, (r599.take e583.length)))))))))))))))))
theorem k8_3 (p0 : (List SCandidate)) (p1 : Bool) (p2 : (List SCandidate)) : FnB Tryd.prog GG [0, 1, 2, 6, 7, 8, 9, 10, 11, 13, 14, 15, 16, 17, 18, 19, 21, 29, 38, 49, 50, 58, 59, 60, 61, 70, 75, 98, 99, 100, 101, 131, 139] Tryd.f8 [.sl false 8 (List.map tySCandidate.c p0), .ref 1000000 0 p2.length, .bool p1] (Ext.of .normal (argTs [.sl false 8 (List.map tySCandidate.c p0), .ref 1000000 0 p2.length, .bool p1]) [] [BT.of 1000000 tySCandidate 8 p2 true] (by rfl)) (g8_3 p0 p1 p2) (fun (r : Int × Bool × (List SCandidate) × (List SCandidate) × (List SPair)) => .tup [.agg [.bool r.2.1, .sl false 8 (List.map tySCandidate.c r.2.2.1), .sl false 8 (List.map tySCandidate.c r.2.2.2.1), .sl false 4 (List.map tySPair.c r.2.2.2.2)], .int .i64 r.1]) (fun (_ : Int × Bool × (List SCandidate) × (List SCandidate) × (List SPair)) => Ext.of .normal [] [] [] (by rfl)) := by unfold FnB; kernel_rfl
noncomputable def s8_3 (p0 : (List SCandidate)) (p1 : Bool) (p2 : (List SCandidate)) : EV.Spec Tryd.prog GG (Int × Bool × (List SCandidate) × (List SCandidate) × (List SPair)) := .ofFnB 8 [] mixed Tryd.func8 rfl (fun _ => rfl) (k8_3 p0 p1 p2)
noncomputable def g5  : TT (Bool) :=
 .call 1001 s6 [] [] fun r499 =>
 .br 0 (!r499)
 (.done false)
 (.call 3001 s14 [] [] fun r500 =>
  .call 4001 (s15 1 1 2) [] [] fun r501 =>
  .call 6001 (s15 1 1 2) [] [] fun r502 =>
  .call 6004 (s15 9 9 3) [] [] fun r503 =>
  .call 6006 (s8_1 true [r502, (SCandidate.mk 3 r501.fComponent r501.fPriority r501.fFoundation (SAddr.mk (bs [192, 0, 2, 1]) 1) r501.fBase)] [r503]) [(1000000, 56), (1000001, 58)] [] fun r504 =>
  .call 7002 (s16 r500.1 0 4) [] [] fun r505 =>
  .call 8002 (s16 r505.1 1 4) [] [] fun r506 =>
  .call 9002 (s17 r506.1) [] [] fun r507 =>
  .call 10002 (s18 r506.1) [] [] fun r508 =>
  .call 11002 (s12 r500.1) [] [] fun r509 =>
  .call 12002 (s16 r500.1 2 3) [] [] fun r510 =>
  .call 13002 (s16 r500.1 0 5) [] [] fun r511 =>
  .call 14002 (s16 r500.1 (-1) 0) [] [] fun r512 =>
  .opr 15001 (Rule.makeZ (ty := tySCandidate) (t := 27) (e := 42) (z := 8) (SCandidate.mk 0 0 0 ByteArray.empty (SAddr.mk ByteArray.empty 0) (SAddr.mk ByteArray.empty 0)) (.const (.int .i64 13)) (.const (.int .i64 13)) 103 13 88 (by kernel_rfl) (by kernel_rfl) (by kernel_rfl) rfl (by decide) (by decide)) fun _ =>
  .call 15002 (s8_2 [] true (List.replicate 13 (SCandidate.mk 0 0 0 ByteArray.empty (SAddr.mk ByteArray.empty 0) (SAddr.mk ByteArray.empty 0)))) [(1000000, 103)] [] fun r556 =>
  .call 16003 (s8_3 [] true [(SCandidate.mk 0 0 0 ByteArray.empty (SAddr.mk ByteArray.empty 0) (SAddr.mk ByteArray.empty 0))]) [(1000000, 109)] [] fun r600 =>
  .call 17001 (s8 [] [] false) [] [] fun r601 =>
  .call 18002 (s18 r601.1) [] [] fun r602 =>
  .cnd 19 [139]
  (.br 19004 (r500.2 != 0)
   (.done true)
   (.br 19010 ((mlen tySPair r500.1.fPairs) != 2)
    (.done true)
    (.br 19014 (r509.2 != 0)
     (.done true)
     (.done ((mlen tySPair r509.1.fPairs) != 2)))))
  (fun (c603 : Bool) => [.bool c603]) fun c603 =>
  .br 0 c603
  (.done false)
  (.gh 1 (.virt 600036 30 8) (.gh 1 (.virt 600037 31 8) (.bind 0
   (.lp (fun (l607 : (List SCandidate) × (List SCandidate) × Int) => Ext.of .normal [(0, .bool false), (1, .ptr 1 0 0), (4, .ptr 4 0 0), (5, .int .i64 r504.1), (7, .int .i64 r505.2), (9, .int .i64 r506.2), (11, .int .i64 r507.2), (12, .bool r508.1), (13, .int .i64 r508.2), (14, .ptr 14 0 0), (17, .int .i64 r510.2), (19, .int .i64 r511.2), (21, .int .i64 r512.2), (23, .int .i64 r556.1), (25, .int .i64 r600.1), (26, .ptr 26 0 0), (27, .int .i64 r601.2), (28, .bool r602.1), (29, .int .i64 r602.2), (30, .ref 600036 0 l607.1.length), (31, .ref 600037 0 l607.2.1.length), (32, .int .i64 l607.2.2)] [(1, ⟨4, true, [[.bool r500.1.fControlling, .sl false 8 (List.map tySCandidate.c r500.1.fLocals), .sl false 8 (List.map tySCandidate.c r500.1.fRemotes), .sl false 4 (List.map tySPair.c r500.1.fPairs)]]⟩), (4, ⟨4, true, [[.bool r504.2.1, .sl false 8 (List.map tySCandidate.c r504.2.2.1), .sl false 8 (List.map tySCandidate.c r504.2.2.2.1), .sl false 4 (List.map tySPair.c r504.2.2.2.2)]]⟩), (14, ⟨4, true, [[.bool r509.1.fControlling, .sl false 8 (List.map tySCandidate.c r509.1.fLocals), .sl false 8 (List.map tySCandidate.c r509.1.fRemotes), .sl false 4 (List.map tySPair.c r509.1.fPairs)]]⟩), (26, ⟨4, true, [[.bool r601.1.fControlling, .sl false 8 (List.map tySCandidate.c r601.1.fLocals), .sl false 8 (List.map tySCandidate.c r601.1.fRemotes), .sl false 4 (List.map tySPair.c r601.1.fPairs)]]⟩)] [BT.of 600036 tySCandidate 8 l607.1 true, BT.of 600037 tySCandidate 8 l607.2.1 true] (by rfl))
    (fun l607 =>
     .br 0 (decide (l607.2.2 ≤ 7))
     (.call 25004 (s15 1 l607.2.2 l607.2.2) [] [] fun r608 =>
      .app 25006 tySCandidate l607.1 [r608] 88 false (by intro h; cases h) (.call 25010 (s15 2 l607.2.2 l607.2.2) [] [] fun r609 =>
      .app 25012 tySCandidate l607.2.1 [r609] 88 false (by intro h; cases h) (.gh 0 (.drop [600036]) (.gh 0 (.ren 149 600036) (.gh 0 (.drop [600037]) (.gh 0 (.ren 155 600037) (.done (.inl ((l607.1 ++ [r608]), (l607.2.1 ++ [r609]), (wi64 (l607.2.2 + 1)))))))))))
     (.done (.inr (l607.1, l607.2.1, r500.1.fControlling, r500.1.fLocals, r500.1.fRemotes, r500.1.fPairs, r504.2.1, r504.2.2.1, r504.2.2.2.1, r504.2.2.2.2, r509.1.fControlling, r509.1.fLocals, r509.1.fRemotes, r509.1.fPairs, r601.1.fControlling, r601.1.fLocals, r601.1.fRemotes, r601.1.fPairs, r504.1, r505.2, r506.2, r507.2, r508.1, r508.2, r510.2, r511.2, r512.2, r556.1, r600.1, r601.2, r602.1, r602.2))))
    ([], [], 1))
   (fun (e610 : (List SCandidate) × (List SCandidate) × Bool × (List SCandidate) × (List SCandidate) × (List SPair) × Bool × (List SCandidate) × (List SCandidate) × (List SPair) × Bool × (List SCandidate) × (List SCandidate) × (List SPair) × Bool × (List SCandidate) × (List SCandidate) × (List SPair) × Int × Int × Int × Int × Bool × Int × Int × Int × Int × Int × Int × Int × Bool × Int) => Ext.of (.exit 0) [(0, .bool false), (1, .ptr 1 0 0), (4, .ptr 4 0 0), (5, .int .i64 e610.2.2.2.2.2.2.2.2.2.2.2.2.2.2.2.2.2.2.1), (7, .int .i64 e610.2.2.2.2.2.2.2.2.2.2.2.2.2.2.2.2.2.2.2.1), (9, .int .i64 e610.2.2.2.2.2.2.2.2.2.2.2.2.2.2.2.2.2.2.2.2.1), (11, .int .i64 e610.2.2.2.2.2.2.2.2.2.2.2.2.2.2.2.2.2.2.2.2.2.1), (12, .bool e610.2.2.2.2.2.2.2.2.2.2.2.2.2.2.2.2.2.2.2.2.2.2.1), (13, .int .i64 e610.2.2.2.2.2.2.2.2.2.2.2.2.2.2.2.2.2.2.2.2.2.2.2.1), (14, .ptr 14 0 0), (17, .int .i64 e610.2.2.2.2.2.2.2.2.2.2.2.2.2.2.2.2.2.2.2.2.2.2.2.2.1), (19, .int .i64 e610.2.2.2.2.2.2.2.2.2.2.2.2.2.2.2.2.2.2.2.2.2.2.2.2.2.1), (21, .int .i64 e610.2.2.2.2.2.2.2.2.2.2.2.2.2.2.2.2.2.2.2.2.2.2.2.2.2.2.1), (23, .int .i64 e610.2.2.2.2.2.2.2.2.2.2.2.2.2.2.2.2.2.2.2.2.2.2.2.2.2.2.2.1), (25, .int .i64 e610.2.2.2.2.2.2.2.2.2.2.2.2.2.2.2.2.2.2.2.2.2.2.2.2.2.2.2.2.1), (26, .ptr 26 0 0), (27, .int .i64 e610.2.2.2.2.2.2.2.2.2.2.2.2.2.2.2.2.2.2.2.2.2.2.2.2.2.2.2.2.2.1), (28, .bool e610.2.2.2.2.2.2.2.2.2.2.2.2.2.2.2.2.2.2.2.2.2.2.2.2.2.2.2.2.2.2.1), (29, .int .i64 e610.2.2.2.2.2.2.2.2.2.2.2.2.2.2.2.2.2.2.2.2.2.2.2.2.2.2.2.2.2.2.2), (30, .ref 600036 0 e610.1.length), (31, .ref 600037 0 e610.2.1.length)] [(1, ⟨4, true, [[.bool e610.2.2.1, .sl false 8 (List.map tySCandidate.c e610.2.2.2.1), .sl false 8 (List.map tySCandidate.c e610.2.2.2.2.1), .sl false 4 (List.map tySPair.c e610.2.2.2.2.2.1)]]⟩), (4, ⟨4, true, [[.bool e610.2.2.2.2.2.2.1, .sl false 8 (List.map tySCandidate.c e610.2.2.2.2.2.2.2.1), .sl false 8 (List.map tySCandidate.c e610.2.2.2.2.2.2.2.2.1), .sl false 4 (List.map tySPair.c e610.2.2.2.2.2.2.2.2.2.1)]]⟩), (14, ⟨4, true, [[.bool e610.2.2.2.2.2.2.2.2.2.2.1, .sl false 8 (List.map tySCandidate.c e610.2.2.2.2.2.2.2.2.2.2.2.1), .sl false 8 (List.map tySCandidate.c e610.2.2.2.2.2.2.2.2.2.2.2.2.1), .sl false 4 (List.map tySPair.c e610.2.2.2.2.2.2.2.2.2.2.2.2.2.1)]]⟩), (26, ⟨4, true, [[.bool e610.2.2.2.2.2.2.2.2.2.2.2.2.2.2.1, .sl false 8 (List.map tySCandidate.c e610.2.2.2.2.2.2.2.2.2.2.2.2.2.2.2.1), .sl false 8 (List.map tySCandidate.c e610.2.2.2.2.2.2.2.2.2.2.2.2.2.2.2.2.1), .sl false 4 (List.map tySPair.c e610.2.2.2.2.2.2.2.2.2.2.2.2.2.2.2.2.2.1)]]⟩)] [BT.of 600036 tySCandidate 8 e610.1 true, BT.of 600037 tySCandidate 8 e610.2.1 true] (by rfl))
   (fun e610 =>
    .gh 28 (.share (VwW.of 600036 tySCandidate e610.1) 0) (.gh 28 (.share (VwW.of 600037 tySCandidate e610.2.1) 0) (.call 26003 (s8 e610.1 e610.2.1 true) [] [] fun r611 =>
    .bind 1
    (.lp (fun (l614 : Int × Int) => Ext.lit .normal [(0, .bool false), (1, .ptr 1 0 0), (4, .ptr 4 0 0), (5, .int .i64 e610.2.2.2.2.2.2.2.2.2.2.2.2.2.2.2.2.2.2.1), (7, .int .i64 e610.2.2.2.2.2.2.2.2.2.2.2.2.2.2.2.2.2.2.2.1), (9, .int .i64 e610.2.2.2.2.2.2.2.2.2.2.2.2.2.2.2.2.2.2.2.2.1), (11, .int .i64 e610.2.2.2.2.2.2.2.2.2.2.2.2.2.2.2.2.2.2.2.2.2.1), (12, .bool e610.2.2.2.2.2.2.2.2.2.2.2.2.2.2.2.2.2.2.2.2.2.2.1), (13, .int .i64 e610.2.2.2.2.2.2.2.2.2.2.2.2.2.2.2.2.2.2.2.2.2.2.2.1), (14, .ptr 14 0 0), (17, .int .i64 e610.2.2.2.2.2.2.2.2.2.2.2.2.2.2.2.2.2.2.2.2.2.2.2.2.1), (19, .int .i64 e610.2.2.2.2.2.2.2.2.2.2.2.2.2.2.2.2.2.2.2.2.2.2.2.2.2.1), (21, .int .i64 e610.2.2.2.2.2.2.2.2.2.2.2.2.2.2.2.2.2.2.2.2.2.2.2.2.2.2.1), (23, .int .i64 e610.2.2.2.2.2.2.2.2.2.2.2.2.2.2.2.2.2.2.2.2.2.2.2.2.2.2.2.1), (25, .int .i64 e610.2.2.2.2.2.2.2.2.2.2.2.2.2.2.2.2.2.2.2.2.2.2.2.2.2.2.2.2.1), (26, .ptr 26 0 0), (27, .int .i64 e610.2.2.2.2.2.2.2.2.2.2.2.2.2.2.2.2.2.2.2.2.2.2.2.2.2.2.2.2.2.1), (28, .bool e610.2.2.2.2.2.2.2.2.2.2.2.2.2.2.2.2.2.2.2.2.2.2.2.2.2.2.2.2.2.2.1), (29, .int .i64 e610.2.2.2.2.2.2.2.2.2.2.2.2.2.2.2.2.2.2.2.2.2.2.2.2.2.2.2.2.2.2.2), (33, .ptr 33 0 0), (34, .int .i64 r611.2), (35, .int .i64 l614.1), (163, .sl false 4 (List.map tySPair.c r611.1.fPairs)), (164, .int .i64 (mlen tySPair r611.1.fPairs)), (165, .int .i64 l614.2)] [(1, ⟨4, true, [[.bool e610.2.2.1, .sl false 8 (List.map tySCandidate.c e610.2.2.2.1), .sl false 8 (List.map tySCandidate.c e610.2.2.2.2.1), .sl false 4 (List.map tySPair.c e610.2.2.2.2.2.1)]]⟩), (4, ⟨4, true, [[.bool e610.2.2.2.2.2.2.1, .sl false 8 (List.map tySCandidate.c e610.2.2.2.2.2.2.2.1), .sl false 8 (List.map tySCandidate.c e610.2.2.2.2.2.2.2.2.1), .sl false 4 (List.map tySPair.c e610.2.2.2.2.2.2.2.2.2.1)]]⟩), (14, ⟨4, true, [[.bool e610.2.2.2.2.2.2.2.2.2.2.1, .sl false 8 (List.map tySCandidate.c e610.2.2.2.2.2.2.2.2.2.2.2.1), .sl false 8 (List.map tySCandidate.c e610.2.2.2.2.2.2.2.2.2.2.2.2.1), .sl false 4 (List.map tySPair.c e610.2.2.2.2.2.2.2.2.2.2.2.2.2.1)]]⟩), (26, ⟨4, true, [[.bool e610.2.2.2.2.2.2.2.2.2.2.2.2.2.2.1, .sl false 8 (List.map tySCandidate.c e610.2.2.2.2.2.2.2.2.2.2.2.2.2.2.2.1), .sl false 8 (List.map tySCandidate.c e610.2.2.2.2.2.2.2.2.2.2.2.2.2.2.2.2.1), .sl false 4 (List.map tySPair.c e610.2.2.2.2.2.2.2.2.2.2.2.2.2.2.2.2.2.1)]]⟩), (33, ⟨4, true, [[.bool r611.1.fControlling, .sl false 8 (List.map tySCandidate.c r611.1.fLocals), .sl false 8 (List.map tySCandidate.c r611.1.fRemotes), .sl false 4 (List.map tySPair.c r611.1.fPairs)]]⟩)])
     (fun l614 =>
      .br 0 (decide (l614.2 < (mlen tySPair r611.1.fPairs)))
      (.row 30001 tySPair r611.1.fPairs l614.2.toNat (decide (0 ≤ l614.2)) fun x615 =>
       .br 0 (x615.fState == 1)
       (.done (.inl ((wi64 (l614.1 + 1)), (wi64 (l614.2 + 1)))))
       (.done (.inl (l614.1, (wi64 (l614.2 + 1))))))
      (.done (.inr (e610.2.2.1, e610.2.2.2.1, e610.2.2.2.2.1, e610.2.2.2.2.2.1, e610.2.2.2.2.2.2.1, e610.2.2.2.2.2.2.2.1, e610.2.2.2.2.2.2.2.2.1, e610.2.2.2.2.2.2.2.2.2.1, e610.2.2.2.2.2.2.2.2.2.2.1, e610.2.2.2.2.2.2.2.2.2.2.2.1, e610.2.2.2.2.2.2.2.2.2.2.2.2.1, e610.2.2.2.2.2.2.2.2.2.2.2.2.2.1, e610.2.2.2.2.2.2.2.2.2.2.2.2.2.2.1, e610.2.2.2.2.2.2.2.2.2.2.2.2.2.2.2.1, e610.2.2.2.2.2.2.2.2.2.2.2.2.2.2.2.2.1, e610.2.2.2.2.2.2.2.2.2.2.2.2.2.2.2.2.2.1, r611.1.fControlling, r611.1.fLocals, r611.1.fRemotes, r611.1.fPairs, e610.2.2.2.2.2.2.2.2.2.2.2.2.2.2.2.2.2.2.1, e610.2.2.2.2.2.2.2.2.2.2.2.2.2.2.2.2.2.2.2.1, e610.2.2.2.2.2.2.2.2.2.2.2.2.2.2.2.2.2.2.2.2.1, e610.2.2.2.2.2.2.2.2.2.2.2.2.2.2.2.2.2.2.2.2.2.1, e610.2.2.2.2.2.2.2.2.2.2.2.2.2.2.2.2.2.2.2.2.2.2.1, e610.2.2.2.2.2.2.2.2.2.2.2.2.2.2.2.2.2.2.2.2.2.2.2.1, e610.2.2.2.2.2.2.2.2.2.2.2.2.2.2.2.2.2.2.2.2.2.2.2.2.1, e610.2.2.2.2.2.2.2.2.2.2.2.2.2.2.2.2.2.2.2.2.2.2.2.2.2.1, e610.2.2.2.2.2.2.2.2.2.2.2.2.2.2.2.2.2.2.2.2.2.2.2.2.2.2.1, e610.2.2.2.2.2.2.2.2.2.2.2.2.2.2.2.2.2.2.2.2.2.2.2.2.2.2.2.1, e610.2.2.2.2.2.2.2.2.2.2.2.2.2.2.2.2.2.2.2.2.2.2.2.2.2.2.2.2.1, e610.2.2.2.2.2.2.2.2.2.2.2.2.2.2.2.2.2.2.2.2.2.2.2.2.2.2.2.2.2.1, e610.2.2.2.2.2.2.2.2.2.2.2.2.2.2.2.2.2.2.2.2.2.2.2.2.2.2.2.2.2.2.1, e610.2.2.2.2.2.2.2.2.2.2.2.2.2.2.2.2.2.2.2.2.2.2.2.2.2.2.2.2.2.2.2, r611.2, l614.1))))
     (0, 0))
    (fun (e616 : Bool × (List SCandidate) × (List SCandidate) × (List SPair) × Bool × (List SCandidate) × (List SCandidate) × (List SPair) × Bool × (List SCandidate) × (List SCandidate) × (List SPair) × Bool × (List SCandidate) × (List SCandidate) × (List SPair) × Bool × (List SCandidate) × (List SCandidate) × (List SPair) × Int × Int × Int × Int × Bool × Int × Int × Int × Int × Int × Int × Int × Bool × Int × Int × Int) => Ext.lit (.exit 2) [(0, .bool false), (1, .ptr 1 0 0), (4, .ptr 4 0 0), (5, .int .i64 e616.2.2.2.2.2.2.2.2.2.2.2.2.2.2.2.2.2.2.2.2.1), (7, .int .i64 e616.2.2.2.2.2.2.2.2.2.2.2.2.2.2.2.2.2.2.2.2.2.1), (9, .int .i64 e616.2.2.2.2.2.2.2.2.2.2.2.2.2.2.2.2.2.2.2.2.2.2.1), (11, .int .i64 e616.2.2.2.2.2.2.2.2.2.2.2.2.2.2.2.2.2.2.2.2.2.2.2.1), (12, .bool e616.2.2.2.2.2.2.2.2.2.2.2.2.2.2.2.2.2.2.2.2.2.2.2.2.1), (13, .int .i64 e616.2.2.2.2.2.2.2.2.2.2.2.2.2.2.2.2.2.2.2.2.2.2.2.2.2.1), (14, .ptr 14 0 0), (17, .int .i64 e616.2.2.2.2.2.2.2.2.2.2.2.2.2.2.2.2.2.2.2.2.2.2.2.2.2.2.1), (19, .int .i64 e616.2.2.2.2.2.2.2.2.2.2.2.2.2.2.2.2.2.2.2.2.2.2.2.2.2.2.2.1), (21, .int .i64 e616.2.2.2.2.2.2.2.2.2.2.2.2.2.2.2.2.2.2.2.2.2.2.2.2.2.2.2.2.1), (23, .int .i64 e616.2.2.2.2.2.2.2.2.2.2.2.2.2.2.2.2.2.2.2.2.2.2.2.2.2.2.2.2.2.1), (25, .int .i64 e616.2.2.2.2.2.2.2.2.2.2.2.2.2.2.2.2.2.2.2.2.2.2.2.2.2.2.2.2.2.2.1), (26, .ptr 26 0 0), (27, .int .i64 e616.2.2.2.2.2.2.2.2.2.2.2.2.2.2.2.2.2.2.2.2.2.2.2.2.2.2.2.2.2.2.2.1), (28, .bool e616.2.2.2.2.2.2.2.2.2.2.2.2.2.2.2.2.2.2.2.2.2.2.2.2.2.2.2.2.2.2.2.2.1), (29, .int .i64 e616.2.2.2.2.2.2.2.2.2.2.2.2.2.2.2.2.2.2.2.2.2.2.2.2.2.2.2.2.2.2.2.2.2.1), (33, .ptr 33 0 0), (34, .int .i64 e616.2.2.2.2.2.2.2.2.2.2.2.2.2.2.2.2.2.2.2.2.2.2.2.2.2.2.2.2.2.2.2.2.2.2.1), (35, .int .i64 e616.2.2.2.2.2.2.2.2.2.2.2.2.2.2.2.2.2.2.2.2.2.2.2.2.2.2.2.2.2.2.2.2.2.2.2)] [(1, ⟨4, true, [[.bool e616.1, .sl false 8 (List.map tySCandidate.c e616.2.1), .sl false 8 (List.map tySCandidate.c e616.2.2.1), .sl false 4 (List.map tySPair.c e616.2.2.2.1)]]⟩), (4, ⟨4, true, [[.bool e616.2.2.2.2.1, .sl false 8 (List.map tySCandidate.c e616.2.2.2.2.2.1), .sl false 8 (List.map tySCandidate.c e616.2.2.2.2.2.2.1), .sl false 4 (List.map tySPair.c e616.2.2.2.2.2.2.2.1)]]⟩), (14, ⟨4, true, [[.bool e616.2.2.2.2.2.2.2.2.1, .sl false 8 (List.map tySCandidate.c e616.2.2.2.2.2.2.2.2.2.1), .sl false 8 (List.map tySCandidate.c e616.2.2.2.2.2.2.2.2.2.2.1), .sl false 4 (List.map tySPair.c e616.2.2.2.2.2.2.2.2.2.2.2.1)]]⟩), (26, ⟨4, true, [[.bool e616.2.2.2.2.2.2.2.2.2.2.2.2.1, .sl false 8 (List.map tySCandidate.c e616.2.2.2.2.2.2.2.2.2.2.2.2.2.1), .sl false 8 (List.map tySCandidate.c e616.2.2.2.2.2.2.2.2.2.2.2.2.2.2.1), .sl false 4 (List.map tySPair.c e616.2.2.2.2.2.2.2.2.2.2.2.2.2.2.2.1)]]⟩), (33, ⟨4, true, [[.bool e616.2.2.2.2.2.2.2.2.2.2.2.2.2.2.2.2.1, .sl false 8 (List.map tySCandidate.c e616.2.2.2.2.2.2.2.2.2.2.2.2.2.2.2.2.2.1), .sl false 8 (List.map tySCandidate.c e616.2.2.2.2.2.2.2.2.2.2.2.2.2.2.2.2.2.2.1), .sl false 4 (List.map tySPair.c e616.2.2.2.2.2.2.2.2.2.2.2.2.2.2.2.2.2.2.2.1)]]⟩)])
    (fun e616 =>
     .tt (.call 37003 (s20 (SBend1.mk 0 0 2 (SBend.mk 0 0 ByteArray.empty (SAddr.mk ByteArray.empty 0))) (SList.mk e616.1 e616.2.1 e616.2.2.1 e616.2.2.2.1)) [] [] fun r617 =>
     .call 37004 (s19 r617) [] [] fun r618 =>
     .br 0 (r618 != 100)
     (.done false)
     (.tt (.gh 38 (.drop [39]) (.call 37003 (s20 (SBend1.mk 0 0 (-1) (SBend.mk 0 0 ByteArray.empty (SAddr.mk ByteArray.empty 0))) (SList.mk e616.1 e616.2.1 e616.2.2.1 e616.2.2.2.1)) [] [] fun r619 =>
      .call 37004 (s19 r619) [] [] fun r620 =>
      .br 0 (r620 != 100)
      (.done false)
      (.tt (.gh 38 (.drop [39]) (.call 37003 (s20 (SBend1.mk 1 0 1 (SBend.mk 0 0 ByteArray.empty (SAddr.mk ByteArray.empty 0))) (SList.mk e616.1 e616.2.1 e616.2.2.1 e616.2.2.2.1)) [] [] fun r621 =>
       .call 37004 (s19 r621) [] [] fun r622 =>
       .br 0 (r622 != 100)
       (.done false)
       (.tt (.gh 38 (.drop [39]) (.call 37003 (s20 (SBend1.mk 2 0 5 (SBend.mk 0 0 ByteArray.empty (SAddr.mk ByteArray.empty 0))) (SList.mk e616.1 e616.2.1 e616.2.2.1 e616.2.2.2.1)) [] [] fun r623 =>
        .call 37004 (s19 r623) [] [] fun r624 =>
        .br 0 (r624 != 100)
        (.done false)
        (.tt (.gh 38 (.drop [39]) (.call 37003 (s20 (SBend1.mk 3 0 5 (SBend.mk 0 0 ByteArray.empty (SAddr.mk ByteArray.empty 0))) (SList.mk e616.1 e616.2.1 e616.2.2.1 e616.2.2.2.1)) [] [] fun r625 =>
         .call 37004 (s19 r625) [] [] fun r626 =>
         .br 0 (r626 != 100)
         (.done false)
         (.tt (.gh 38 (.drop [39]) (.call 37003 (s20 (SBend1.mk 3 0 (-1) (SBend.mk 0 0 ByteArray.empty (SAddr.mk ByteArray.empty 0))) (SList.mk e616.1 e616.2.1 e616.2.2.1 e616.2.2.2.1)) [] [] fun r627 =>
          .call 37004 (s19 r627) [] [] fun r628 =>
          .br 0 (r628 != 100)
          (.done false)
          (.tt (.gh 38 (.drop [39]) (.call 37003 (s20 (SBend1.mk 4 0 0 (SBend.mk 0 0 ByteArray.empty (SAddr.mk ByteArray.empty 0))) (SList.mk e616.1 e616.2.1 e616.2.2.1 e616.2.2.2.1)) [] [] fun r629 =>
           .call 37004 (s19 r629) [] [] fun r630 =>
           .br 0 (r630 != 100)
           (.done false)
           (.tt (.gh 38 (.drop [39]) (.call 37003 (s20 (SBend1.mk 6 0 0 (SBend.mk 0 0 ByteArray.empty (SAddr.mk ByteArray.empty 0))) (SList.mk e616.1 e616.2.1 e616.2.2.1 e616.2.2.2.1)) [] [] fun r631 =>
            .call 37004 (s19 r631) [] [] fun r632 =>
            .br 0 (r632 != 100)
            (.done false)
            (.tt (.gh 38 (.drop [39]) (.call 37003 (s20 (SBend1.mk 7 0 0 (SBend.mk 1 2 ByteArray.empty (SAddr.mk ByteArray.empty 0))) (SList.mk e616.1 e616.2.1 e616.2.2.1 e616.2.2.2.1)) [] [] fun r633 =>
             .call 37004 (s19 r633) [] [] fun r634 =>
             .br 0 (r634 != 100)
             (.done false)
             (.tt (.gh 38 (.drop [39]) (.call 37003 (s20 (SBend1.mk 8 0 0 (SBend.mk 0 0 ByteArray.empty (SAddr.mk ByteArray.empty 0))) (SList.mk e616.1 e616.2.1 e616.2.2.1 e616.2.2.2.1)) [] [] fun r635 =>
              .call 37004 (s19 r635) [] [] fun r636 =>
              .br 0 (r636 != 100)
              (.done false)
              (.tt (.gh 38 (.drop [39]) (.call 37003 (s20 (SBend1.mk 9 0 0 (SBend.mk 0 0 ByteArray.empty (SAddr.mk ByteArray.empty 0))) (SList.mk e616.1 e616.2.1 e616.2.2.1 e616.2.2.2.1)) [] [] fun r637 =>
               .call 37004 (s19 r637) [] [] fun r638 =>
               .br 0 (r638 != 100)
               (.done false)
               (.ff (.cnd 40 [40]
                (.br 40004 (e616.2.2.2.2.2.2.2.2.2.2.2.2.2.2.2.2.2.2.2.2.2.2.2.1 == 4)
                 (.br 40008 (e616.2.2.2.2.2.2.2.2.2.2.2.2.2.2.2.2.2.2.2.2.2.2.2.2.2.2.1 == 2)
                  (.br 40012 (e616.2.2.2.2.2.2.2.2.2.2.2.2.2.2.2.2.2.2.2.2.2.2.2.2.2.2.2.1 == 2)
                   (.br 40016 (e616.2.2.2.2.2.2.2.2.2.2.2.2.2.2.2.2.2.2.2.2.2.2.2.2.2.2.2.2.1 == 2)
                    (.br 40020 (e616.2.2.2.2.2.2.2.2.2.2.2.2.2.2.2.2.2.2.2.2.2.2.2.2.2.2.2.2.2.1 == 3)
                     (.done (e616.2.2.2.2.2.2.2.2.2.2.2.2.2.2.2.2.2.2.2.2.2.2.2.2.2.2.2.2.2.2.1 == 90))
                     (.done false))
                    (.done false))
                   (.done false))
                  (.done false))
                 (.done false))
                (fun (c639 : Bool) => [.bool c639]) fun c639 =>
                .cnd 41 [0]
                (.br 41003 c639
                 (.row 41005 tySPair e616.2.2.2.1 0 true fun x640 =>
                  .br 41011 (x640.fPriority == 9079260147246696446)
                  (.row 41013 tySPair e616.2.2.2.2.2.2.2.2.2.2.2.1 0 true fun x641 =>
                   .br 41019 (x641.fPriority == 9079260147246696447)
                   (.br 41023 (e616.2.2.2.2.2.2.2.2.2.2.2.2.2.2.2.2.2.2.2.2.1 == 0)
                    (.br 41029 ((mlen tySPair e616.2.2.2.2.2.2.2.1) == 1)
                     (.call 41030 (s21 (SList.mk e616.2.2.2.2.1 e616.2.2.2.2.2.1 e616.2.2.2.2.2.2.1 e616.2.2.2.2.2.2.2.1) 0 0 0 1) [] [] fun r642 =>
                      .br 41033 r642
                      (.br 41037 (e616.2.2.2.2.2.2.2.2.2.2.2.2.2.2.2.2.2.2.2.2.2.1 == 0)
                       (.br 41041 (e616.2.2.2.2.2.2.2.2.2.2.2.2.2.2.2.2.2.2.2.2.2.2.1 == 0)
                        (.br 41045 (e616.2.2.2.2.2.2.2.2.2.2.2.2.2.2.2.2.2.2.2.2.2.2.2.2.2.1 == 0)
                         (.br 41048 e616.2.2.2.2.2.2.2.2.2.2.2.2.2.2.2.2.2.2.2.2.2.2.2.2.1
                          (.br 41052 (e616.2.2.2.2.2.2.2.2.2.2.2.2.2.2.2.2.2.2.2.2.2.2.2.2.2.2.2.2.2.2.2.1 == 0)
                           (.br 41058 ((mlen tySPair e616.2.2.2.2.2.2.2.2.2.2.2.2.2.2.2.1) == 0)
                            (.br 41062 (e616.2.2.2.2.2.2.2.2.2.2.2.2.2.2.2.2.2.2.2.2.2.2.2.2.2.2.2.2.2.2.2.2.2.1 == 0)
                             (.br 41065 e616.2.2.2.2.2.2.2.2.2.2.2.2.2.2.2.2.2.2.2.2.2.2.2.2.2.2.2.2.2.2.2.2.1
                              (.br 41069 (e616.2.2.2.2.2.2.2.2.2.2.2.2.2.2.2.2.2.2.2.2.2.2.2.2.2.2.2.2.2.2.2.2.2.2.1 == 0)
                               (.br 41075 ((mlen tySPair e616.2.2.2.2.2.2.2.2.2.2.2.2.2.2.2.2.2.2.2.1) == 36)
                                (.done (e616.2.2.2.2.2.2.2.2.2.2.2.2.2.2.2.2.2.2.2.2.2.2.2.2.2.2.2.2.2.2.2.2.2.2.2 == 1))
                                (.done false))
                               (.done false))
                              (.done false))
                             (.done false))
                            (.done false))
                           (.done false))
                          (.done false))
                         (.done false))
                        (.done false))
                       (.done false))
                      (.done false))
                     (.done false))
                    (.done false))
                   (.done false))
                  (.done false))
                 (.done false))
                (fun (c643 : Bool) => [.bool c643]) fun c643 =>
                .done c643)))))))))))))))))))))))))))))))))))))))))
theorem k5  : FnD Tryd.prog GG [0, 1, 2, 3, 4, 5, 6, 7, 8, 9, 11, 12, 13, 14, 15, 17, 19, 21, 23, 25, 26, 27, 28, 29, 30, 31, 32, 33, 34, 35, 37, 39, 40, 42, 139, 141, 163, 164, 165, 166, 171, 188, 189, 190, 191, 198] Tryd.f5 [] (g5) (fun r => .bool r) := by unfold FnD; kernel_rfl
noncomputable def s5  : EV.Spec Tryd.prog GG (Bool) := .ofFn 5 mixed Tryd.func5 (k5)
end Go.Proofs.YtioobnkmohikjaaDoor
namespace Go.Proofs.YtioobnkmohikjaaDoor
open Go Go.EV
set_option maxRecDepth 1000000
theorem okLKNOWN : SOk s5 (fun r => r = true) := SOk.of (by kernel_rfl)
end Go.Proofs.YtioobnkmohikjaaDoor
namespace Go.Proofs.YtioobnkmohikjaaDoor
open Go Go.EV Go.ChangeShapes
set_option maxRecDepth 100000
theorem own : ownKnob Tryd.prog.godebug = none := by kernel_rfl
abbrev laid1 : List (String × DataW Unit) := [("math/bits.deBruijn32tab", Rows.laid_math_bits_deBruijn32tab), ("math/bits.deBruijn64tab", Rows.laid_math_bits_deBruijn64tab), ("internal/strconv.uint64pow10", Rows.laid_internal_strconv_uint64pow10), ("unicode/utf8.acceptRanges", Rows.laid_unicode_utf8_acceptRanges), ("unicode/utf8.first", Rows.laid_unicode_utf8_first)]
theorem shaped1 (os : Os) : (World.laidAll Tryd.prog os laid1).Shaped Tryd.prog := World.shaped_of_ZipB (by kernel_rfl) (by kernel_rfl)
theorem laid_met (os : Os) (args : Array Value) : laidMetH Tryd.prog laid1 ((World.laidAll Tryd.prog os laid1).forCall (fun _ _ => 0) ⟨#[], args, []⟩).memory := by
 rw [MakeChecks.laidMetH_plain _ _ _ (by kernel_rfl)]
 exact laidMet_laidAll _ (by kernel_rfl) (by kernel_rfl)
def gh0 (w : World) : Gh := { loc := fun _ => none, own := fun _ => none, lim := fun B => match w.heap[B]? with | some (.cells cs _ _) => cs.size | _ => 0 }
theorem globOk {w : World} (_ : laidMetH Tryd.prog laid1 w) : GlobOk GG (gh0 w) w := fun g cells hg => by
 unfold GG at hg
 cases hg
theorem keptBut_of_grow {w w' : World} {γ' : Gh} (h : Grow (gh0 w) w γ' w') (may : MemPlace → Prop) : w.keptBut w' may := by
 refine ⟨h.os, h.output, fun i hi => ?_⟩
 have := (h.free i hi rfl).1
 rw [this]
 cases w.heap[i]? with
 | none => trivial
 | some x =>
  cases x with
  | cells c t fr => exact ⟨rfl, rfl, rfl, fun _ _ => rfl⟩
  | map es clock => exact .inr ⟨rfl, rfl⟩
  | _ => rfl
end Go.Proofs.YtioobnkmohikjaaDoor
namespace Go.Proofs.YtioobnkmohikjaaDoor
open Go Go.EV Go.ChangeShapes
set_option maxRecDepth 100000
section
variable {H : Type} {enc : TypeId × Value → H} {P : Program} {w : World} {base : Nat} {spare : Nat → Bool} {held : Bool}
end
end Go.Proofs.YtioobnkmohikjaaDoor
namespace Go.Proofs.YtioobnkmohikjaaDoor
open Go Go.EV Go.ChangeShapes Go.WideShapes Go.ChangeAt Go.RowKit
set_option maxRecDepth 100000
theorem und4 : Tryd.prog.underlying 4 = some .bool := by kernel_rfl
theorem callsK {w : World} (h : laidMetH Tryd.prog laid1 w) : Calls Tryd.prog 5 #[] w fun e w' => e = .returned (.bool true) ∧ w.keptBut w' (fun _ => False) := by
 have c : CallC Tryd.prog GG 5 [] (ofL []) (.bool true) (ofL []) := s5.ok true (SOk.eq okLKNOWN)
 refine (c (gh0 w) w #[] (globOk h) (fun B x hx => by simp [gh0] at hx) ⟨rfl, fun i c v hc => by simp at hc⟩ (fun b k hb => by simp [ofL] at hb)).mono fun e w' hq => ?_
 obtain ⟨v, γ', rfl, hg, _, hr, _⟩ := hq
 have := hr.bool_inv
 subst this
 exact ⟨rfl, keptBut_of_grow hg _⟩
theorem known_lifted (os : Os) (started : os.Started) (H : Type) (enc : TypeId × Value → H) :
  ReturnsInHanded {} Tryd.checked os 5 .any (fun w args => (Rows.checklistKnownSpec.pre enc Tryd.prog Tryd.f5 [] false w args ∧ laidMetH Tryd.prog laid1 w) ∧ sizedMet enc Tryd.prog Tryd.f5 (OpenSpec.ofChange Rows.checklistKnownSpec) false w args)
   (Rows.checklistKnownSpec.post enc Tryd.prog Tryd.f5 false true false false) := by
 refine returnsInHanded_of_change_and (C := Tryd.checked) (X := fun w _ => laidMetH Tryd.prog laid1 w) (fun _ _ _ hh h => h.of_heap hh) own started (by kernel_rfl) Tryd.func5
  (ChangeSpec.witness_shaped (enc := enc) (C := Tryd.checked) (os := os) (X := fun w _ => laidMetH Tryd.prog laid1 w) false (World.laidAll Tryd.prog os laid1) #[] 8 (World.laidAll_os _ _ _) (shaped1 os) (by kernel_rfl) (by kernel_rfl) (by kernel_rfl) (laid_met os _)) ?_
 intro W base args ds gs before hval hW _ _ hL _
 have hW' := hW
 obtain ⟨p, q, hA0, hV, rfl, hfz, hnd⟩ := hW
 have hA : DataW.TrodAll enc Tryd.prog W 0 (fun _ => true) true Tryd.f5.params.toList args.toList ds p := hA0
 rw [Tryd.params5] at hA
 obtain ⟨rfl, rfl⟩ := trodVars_none hV
 obtain ⟨ha, rfl, rfl⟩ : args.toList = [] ∧ ds = [] ∧ p = [] := by
  generalize args.toList = l at hA
  cases l with
  | nil => cases ds with
   | nil => exact ⟨rfl, rfl, hA⟩
   | cons d ds => exact absurd hA (by intro h; cases h)
  | cons a l => exact absurd hA (by intro h; cases h)
 obtain rfl : args = #[] := Array.toList_inj.1 (by rw [ha])
 refine (callsK hL).mono fun e W' ⟨he, hw⟩ => ?_
 subst he
 exact ⟨_, rfl, [], [], [], [], [], [], hW', trodAll_mk1 (shut_bool und4 true), rfl, rfl, World.keptBut_mono (fun _ h => h.elim) hw, fun h => by cases h⟩
theorem known_holds : Rows.ChecklistKnownSaid :=
 OpenClaim.holds_of_wide 5 Tryd.f5 rfl rfl rfl rfl rfl rfl rfl ⟨rfl, rfl, rfl, rfl, rfl⟩ rfl rfl rfl rfl rfl (by kernel_rfl) Tryd.func5 (by kernel_rfl)
  (of_decide_eq_true (by kernel_rfl)) (by unfold Func.isWrapper; first | (rw [if_pos (by decide +kernel)]; kernel_rfl) | (rw [if_neg (by decide +kernel)]; exact ⟨rfl, rfl⟩))
  (fun os started H enc _ => known_lifted os started H enc)
theorem checklistKnown_card : Rows.ChecklistKnownCardSaid :=
 Claim7.holds_tied_plain_at .later [] [.data, .data, .data, .data, .pinned] true (true, "62529c4d70fb5723b7c261a8bc253186ee1a984c261142dfada504e8f749795e") false
  known_holds (fun _ h => by cases h) (by kernel_rfl) (fun _ h => by cases h) checklistKnown_row_tie rfl ⟨rfl, rfl⟩ (by kernel_rfl) rfl
  (fun f fn hf hfn => by
   obtain rfl : f = 5 := Option.some.inj ((show Tryd.prog.funcNamed "tannoy/tannoylaw10.ChecklistKnown" = some 5 by kernel_rfl).symm.trans hf) |>.symm
   obtain rfl : fn = Tryd.f5 := (Option.some.inj (Tryd.func5.symm.trans hfn)).symm
   exact ⟨by kernel_rfl, fun j t ht => by
    rw [Tryd.params5] at ht
    simp at ht⟩)
  (by kernel_rfl)
end Go.Proofs.YtioobnkmohikjaaDoor
