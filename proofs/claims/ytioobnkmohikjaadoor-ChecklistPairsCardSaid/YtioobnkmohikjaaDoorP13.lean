/- ChecklistPairs: all candidates that fit are paired, in order; of each foundations one pair waits.
   The listed variables: laid in the witness; no function of the laws reads them. What a call may change: nothing of what was there.
   Arguments opened: what comes in reads as typed data. Conditions: none but that it reads at all.
   Readers of the laws' parameters, printed by a program.
   What is read of a bend, or of drafts. -/
import Derived.Test.YtioobnkmohikjaaDoorP11
import Derived.Test.YtioobnkmohikjaaDoorP12
import Derived.Test.YtioobnkmohikjaaDoorP8
import Derived.Test.YtioobnkmohikjaaDoorRows
import Derived.ChangeSame
import Derived.ChangeVars
import Derived.JoinedOf
import Derived.RowKit
import Derived.ProofKit
import Derived.LaidMore
import Derived.Lay
import Derived.OpenShut
import Derived.Carry
import Derived.Stop.Joined
import Derived.ChangeArms
import Derived.DataReads
import Derived.SevenTiedAt
import Derived.KernelRfl
namespace Go.Proofs.YtioobnkmohikjaaDoor
open Go Go.EV
set_option maxRecDepth 100000
open Classical
theorem SOk.fn {P : Program} {G : Nat → Option (List V)} {kp : List Nat} {f : FuncId} {fn : Func} {args : List V} {ρ : Type} {g : T P G ρ} {res : ρ → V} {hm : P.follows .mixedOrders = true} {hf : P.funcs[f]? = some fn} {k : FnD P G kp fn args g res} {Q : ρ → Prop} (h : Ok g Q) : SOk (.ofFn f hm hf k) Q := h
theorem okLRELATED (l : SList) (x y : SPair) (h : InB l x) (k : InB l y) : SOk (s10 l x y) (fun b => (b = true ↔ foundK l x = foundK l y)) := by
 show Ok (g10 l x y) _
 unfold g10 foundK
 simp only [S2String.mk.injEq]
 refine Ok.cnd (R := fun c => (c = true ↔ (locC l x).fFoundation = (locC l y).fFoundation ∧ (remC l x).fFoundation = (remC l y).fFoundation)) ?_ fun c hc => Ok.done hc
 refine Ok.row h.lc h.loc (Ok.row k.lc k.loc (Ok.br (fun h1 => Ok.row h.rc h.rem (Ok.row k.rc k.rem (Ok.done ?_))) (fun h1 => Ok.done ?_)))
 ·simp only [decide_eq_true_eq] at h1 ⊢; exact ⟨fun h => ⟨h1, h⟩, fun h => h.2⟩
 ·simp only [decide_eq_false_iff_not] at h1; exact ⟨fun h => by simp at h, fun h => absurd h.1 h1⟩
theorem okGOOD (c : Bool) (a b : List SCandidate) (ps : List SPair) (ha : a.length ≤ 1000) (hb : b.length ≤ 1000) (hp : ps.length ≤ 1000) (hI : ∀ x, x ∈ ps → InB ⟨c, a, b, []⟩ x) : SOk (s9 ⟨c, a, b, ps⟩ a b) (fun r => r = true) := by
 show Ok (g9 ⟨c, a, b, ps⟩ a b) _
 unfold g9
 simp only [mlen_eq]
 refine Ok.cnd (R := fun c => c = false) (Ok.call (okSAMEC a (by omega)) fun r hr => Ok.brF (by rw [hr]; rfl) (Ok.call (okSAMEC b (by omega)) fun r hr => Ok.done (by rw [hr]; rfl))) fun c hc => Ok.brF hc (Ok.bind2 (R := fun e => match e with | .inl _ => False | .inr _ => True) ?_ (fun e he => he.elim) (fun e he => Ok.done rfl))
 refine Ok.scan ps.length (by omega) (fun k y => y = (k : Int)) rfl (fun k y hy hk => ?_) (fun y hy => ?_)
 ·subst hy
  refine Ok.br (fun hc => ?_) (fun hc => by simp at hc; omega)
  obtain ⟨x, hx1, hx2⟩ := get_lt hk
  obtain ⟨⟨h1, h2⟩, ⟨h3, h4⟩⟩ := hI x (List.mem_of_getElem? hx2)
  have h2' : x.fLocal < (a.length : Int) := h2
  have h4' : x.fRemote < (b.length : Int) := h4
  exact Ok.row (by simp) hx1 (Ok.cnd (R := fun c => c = false) (Ok.brF (by simp; omega) (Ok.brF (by simp; omega) (Ok.brF (by simp; omega) (Ok.done (by simp; omega))))) fun c hc => Ok.brF hc (Ok.done (wi64_nat hk (by omega))))
 ·subst hy
  exact Ok.br (fun hc => by simp at hc) (fun hc => Ok.done trivial)
theorem MakeR.shape {a b : List SCandidate} {c : Bool} {m : SList × Int} (hm : MakeR a b c m) (ha : a.length ≤ 12) (hb : b.length ≤ 12) (ca : CandsOk a) (cb : CandsOk b) : ∃ ps, m = (⟨c, a, b, ps⟩, 0) ∧ MShape ⟨c, a, b, []⟩ ps := by
 unfold MakeR at hm
 rw [if_neg (by omega), if_neg (fun h => h ⟨ca, cb⟩)] at hm
 obtain ⟨ps, h1, h2⟩ := hm
 exact ⟨ps, h1, h2.shape⟩
theorem locC_at {Z : SList} {x : SPair} {k : Nat} {p : SCandidate} (h : Z.fLocals[k]? = some p) (hx : x.fLocal = (k : Int)) : locC Z x = p := by
 unfold locC; rw [hx, Int.toNat_natCast, h]; rfl
theorem remC_at {Z : SList} {x : SPair} {k : Nat} {p : SCandidate} (h : Z.fRemotes[k]? = some p) (hx : x.fRemote = (k : Int)) : remC Z x = p := by
 unfold remC; rw [hx, Int.toNat_natCast, h]; rfl
theorem nodup_at {α β : Type} {f : α → β} {l : List α} (h : (l.map f).Nodup) {i j : Nat} {x y : α} (hx : l[i]? = some x) (hy : l[j]? = some y) (e : f x = f y) : i = j := by
 have h1 : (l.map f)[i]? = some (f x) := by rw [List.getElem?_map, hx]; rfl
 have h2 : (l.map f)[j]? = some (f x) := by rw [List.getElem?_map, hy, e]; rfl
 rcases Nat.lt_trichotomy i j with h3 | h3 | h3
 ·exact absurd rfl (pairwise_le h h1 h2 h3)
 ·exact h3
 ·exact absurd rfl (pairwise_le h h2 h1 h3)
theorem gLPAIRS (d : SDraft1) (hL : ∀ x, x ∈ d.fLocals → DraftOk x) (hR : ∀ x, x ∈ d.fRemotes → DraftOk x) : Ok (g3 d) (fun r => r = true) := by
 unfold g3
 simp only [mlen_eq]
 refine Ok.call okWAKES fun r hr => Ok.brF (by rw [hr]; rfl) (Ok.call (okRCANDSH d.fLocals 12 (by omega) hL) fun a ha => Ok.call (okRCANDSH d.fRemotes 12 (by omega) hR) fun b hb => Ok.call (okMAKE a b d.fControlling) fun m hm => ?_)
 obtain ⟨ha, ca⟩ := ha
 obtain ⟨hb, cb⟩ := hb
 obtain ⟨ps, rfl, hS⟩ := hm.shape ha hb ca cb
 clear hm
 generalize d.fControlling = c at *
 have hlen := hS.len
 have hI : ∀ x, x ∈ ps → ∀ L, InB ⟨c, a, b, L⟩ x := fun x hx L => (hS.pair x hx).1
 refine Ok.cnd (R := fun c => c = false) (Ok.brF rfl (Ok.call (okGOOD c a b ps (by omega) (by omega) (by omega) (fun x hx => hI x hx [])) fun r hr => Ok.brF (by rw [hr]; rfl) (Ok.done (by simp; omega)))) fun c1 hc1 => Ok.brF hc1 ?_
 refine Ok.bind2 (R := fun e => match e with | .inl _ => False | .inr e => e = (c, a, b, ps, a, b)) ?_ (fun e he => he.elim) (fun e he => ?_)
 ·refine Ok.scan ps.length (by omega) (fun k y => y = (c, a, b, ps, a, b, (ps.length : Int), (k : Int))) rfl (fun k y hy hk => ?_) (fun y hy => ?_)
  ·subst hy
   refine Ok.br (fun hc => ?_) (fun hc => by simp at hc; omega)
   obtain ⟨x, hx1, hx2⟩ := get_lt hk
   have hxm := List.mem_of_getElem? hx2
   refine Ok.row (by simp) hx1 (Ok.cnd (R := fun b => b = false) ?_ fun c2 hc2 => Ok.brF hc2 ?_)
   ·refine Ok.br (fun h => ?_) (fun _ => Ok.done rfl)
    have h0 : 0 < k := by simpa using h
    have e1 : wi64 ((k : Int) - 1) = ((k - 1 : Nat) : Int) := by rw [wi64_id (by omega) (by omega)]; omega
    have hw : ps[k - 1]? = some (ps[k - 1]'(by omega)) := List.getElem?_eq_getElem (by omega)
    generalize ps[k - 1]'(by omega) = w at hw
    refine Ok.row (by simp only [e1]; simp) (by simp only [e1, Int.toNat_natCast]; exact hw) (Ok.done ?_)
    have := pairwise_le hS.sorted hw hx2 (by omega)
    unfold bef at this
    simp; omega
   ·obtain ⟨w, y, hw, hyf, hys, huniq⟩ := hS.wait x hxm
    have hwl := (List.getElem?_eq_some_iff.1 hw).1
    refine Ok.bind2 (R := fun e => match e with | .inl _ => False | .inr e => e = (x.fLocal, x.fRemote, x.fPriority, x.fState, 1)) ?_ (fun e he => he.elim) (fun e he => ?_)
    ·refine Ok.scan ps.length (by omega) (fun j z => z = ((if w < j then 1 else 0 : Int), (j : Int))) (by simp) (fun j z hz hj => ?_) (fun z hz => ?_)
     ·subst hz
      refine Ok.br (fun _ => ?_) (fun hc => by simp at hc; omega)
      obtain ⟨v, hv1, hv2⟩ := get_lt hj
      have hvm := List.mem_of_getElem? hv2
      refine Ok.row (by simp) hv1 (Ok.cnd (R := fun t => (t = true ↔ foundK ⟨c, a, b, []⟩ v = foundK ⟨c, a, b, []⟩ x ∧ v.fState = 1)) ?_ fun c3 hc3 => Ok.br (fun h3 => ?_) (fun h3 => Ok.done ?_))
      ·refine Ok.call (okLRELATED ⟨c, a, b, ps⟩ x v (hI x hxm _) (hI v hvm _)) fun r hr => Ok.br (fun h => Ok.done ?_) (fun h => Ok.done ?_)
       ·rw [beq_iff_eq]
        exact ⟨fun k => ⟨(hr.1 h).symm, k⟩, fun k => k.2⟩
       ·exact ⟨fun k => by simp at k, fun k => by rw [hr.2 k.1.symm] at h; simp at h⟩
      ·obtain ⟨h4, h5⟩ := hc3.1 h3
       obtain ⟨rfl, h6⟩ := huniq j v hv2 h4 h5
       refine Ok.row (hI v hvm []).lc (hI v hvm []).loc (Ok.row (hI x hxm []).lc (hI x hxm []).loc (Ok.brF ?_ (Ok.done ?_)))
       ·have h6' : (locC ⟨c, a, b, []⟩ v).fComponent ≤ (locC ⟨c, a, b, []⟩ x).fComponent := h6
        simp; exact h6'
       ·refine Prod.ext ?_ (wi64_nat hj (by omega))
        simp only
        rw [if_neg (by omega), if_pos (by omega)]; rfl
      ·have hne : j ≠ w := fun e => by
        subst e
        rw [hw] at hv2; obtain rfl := Option.some.inj hv2
        rw [hc3.2 ⟨hyf, hys⟩] at h3; simp at h3
       refine Prod.ext ?_ (wi64_nat hj (by omega))
       simp only
       by_cases h7 : w < j
       ·rw [if_pos h7, if_pos (by omega)]
       ·rw [if_neg h7, if_neg (by omega)]
     ·subst hz
      refine Ok.br (fun hc => by simp at hc) (fun hc => Ok.done ?_)
      show (_, _, _, _, _) = _
      simp only [if_pos hwl]
    ·subst he
     refine Ok.cnd (R := fun b => b = false) (Ok.brF (by simp) ?_) fun c4 hc4 => Ok.brF hc4 (Ok.done ?_)
     ·rcases (hS.pair x hxm).2.2.2 with h | h
      ·exact Ok.br (fun _ => Ok.done (by simp [h])) (fun _ => Ok.done rfl)
      ·exact Ok.br (fun h2 => by simp [h] at h2) (fun _ => Ok.done rfl)
     ·show (_, _, _, _, _, _, _, _) = _
      simp only [wi64_nat hk (by omega : ps.length ≤ 1000000)]
  ·subst hy
   exact Ok.br (fun hc => by simp at hc) (fun hc => Ok.done rfl)
 ·subst he
  refine Ok.bind2 (R := fun e => match e with | .inl _ => False | .inr _ => True) ?_ (fun e he => he.elim) (fun e he => Ok.done rfl)
  refine Ok.scan a.length (by omega) (fun k y => y = (c, a, b, ps, a, b, (a.length : Int), (k : Int))) rfl (fun k y hy hk => ?_) (fun y hy => ?_)
  ·subst hy
   refine Ok.br (fun hc => ?_) (fun hc => by simp at hc; omega)
   obtain ⟨p, hp1, hp2⟩ := get_lt hk
   refine Ok.row (by simp) hp1 (Ok.bind2 (R := fun e => match e with | .inl _ => False | .inr _ => True) ?_ (fun e he => he.elim) (fun e he => Ok.done ?_))
   ·refine Ok.scan b.length (by omega) (fun j z => z = (p.fKind, p.fComponent, p.fPriority, p.fFoundation, p.fAddr.fHost, p.fAddr.fPort, p.fBase.fHost, p.fBase.fPort, (j : Int))) rfl (fun j z hz hj => ?_) (fun z hz => ?_)
    ·subst hz
     refine Ok.br (fun hc => ?_) (fun hc => by simp at hc; omega)
     obtain ⟨q, hq1, hq2⟩ := get_lt hj
     refine Ok.row (by simp) hq1 (Ok.cnd (R := fun b => b = false → FitP p q ∧ ps.length ≠ 36) ?_ fun c1 hc1 => Ok.br (fun _ => Ok.done ?_) (fun h1 => ?_))
     ·refine Ok.br (fun h => Ok.done fun h => by simp at h) (fun h => Ok.br (fun h => Ok.done fun h => by simp at h) (fun h2 => Ok.done fun h3 => ?_))
      rw [bne_eq_false_iff_eq] at h h2
      rw [beq_eq_false_iff_ne] at h3
      exact ⟨⟨h, h2⟩, fun h4 => h3 (by rw [h4]; rfl)⟩
     ·show (_, _, _, _, _, _, _, _, _) = _
      simp only [wi64_nat hj (by omega : b.length ≤ 1000000)]
     ·obtain ⟨hfp, h36⟩ := hc1 h1
      have hfit : FitAt ⟨c, a, b, []⟩ k j := ⟨p, q, hp2, hq2, hfp⟩
      have hpp := (ca p (List.mem_of_getElem? hp2)).2.2.1
      have hqp := (cb q (List.mem_of_getElem? hq2)).2.2.1
      have el : locC ⟨c, a, b, []⟩ (mkP ⟨c, a, b, []⟩ k j) = p := locC_at (Z := ⟨c, a, b, []⟩) hp2 rfl
      have er : remC ⟨c, a, b, []⟩ (mkP ⟨c, a, b, []⟩ k j) = q := remC_at (Z := ⟨c, a, b, []⟩) hq2 rfl
      have eprio : (mkP ⟨c, a, b, []⟩ k j).fPriority = prio ⟨c, a, b, []⟩ (mkP ⟨c, a, b, []⟩ k j) := prio_eq rfl rfl
      refine Ok.bind (R := fun e => ppr e.1 e.2 = (mkP ⟨c, a, b, []⟩ k j).fPriority ∧ (1 ≤ e.1 ∧ e.1 ≤ 2147483647) ∧ (1 ≤ e.2 ∧ e.2 ≤ 2147483647)) ?_ fun e he => Ok.call (okPP _ _ he.2.1 he.2.2) fun r hr => ?_
      ·refine Ok.br (fun h => Ok.done ⟨?_, hqp, hpp⟩) (fun h => Ok.done ⟨?_, hpp, hqp⟩)
       ·rw [eprio]; unfold prio; rw [el, er]
        have : c = false := by simpa using h
        subst this; rfl
       ·rw [eprio]; unfold prio; rw [el, er]
        have : c = true := by simpa using h
        subst this; rfl
      ·rw [he.1] at hr
       subst hr
       obtain ⟨y, hym, hyk, hyp⟩ := hS.all (by omega) k j hfit
       obtain ⟨w, hw⟩ := List.mem_iff_getElem?.1 hym
       have hwl := (List.getElem?_eq_some_iff.1 hw).1
       refine Ok.bind2 (R := fun e => match e with | .inl _ => False | .inr e => e = (0, true)) ?_ (fun e he => he.elim) (fun e he => ?_)
       ·refine Ok.scan ps.length (by omega) (fun i z => z = (decide (w < i), (i : Int))) (by simp) (fun i z hz hi => ?_) (fun z hz => ?_)
        ·subst hz
         refine Ok.br (fun hc => ?_) (fun hc => by simp at hc; omega)
         obtain ⟨x, hx1, hx2⟩ := get_lt hi
         have hxm := List.mem_of_getElem? hx2
         have hxI := hI x hxm []
         have hlike : likeK ⟨c, a, b, []⟩ x = likeK ⟨c, a, b, []⟩ (mkP ⟨c, a, b, []⟩ k j) ↔ i = w := by
          rw [← hyk]
          constructor
          ·exact fun h => nodup_at hS.nodup hx2 hw h
          ·intro h; subst h; rw [hw] at hx2; obtain rfl := Option.some.inj hx2; rfl
         have tail : Ok (.br 40017 (x.fLocal == (k : Int)) (.br 40023 (x.fRemote == (j : Int)) (.done (x.fPriority != (mkP ⟨c, a, b, []⟩ k j).fPriority)) (.done false)) (.done false) : TT Bool) (fun b => b = false) := by
          refine Ok.br (fun h => Ok.br (fun h2 => Ok.done ?_) (fun _ => Ok.done rfl)) (fun _ => Ok.done rfl)
          rw [beq_iff_eq] at h h2
          rw [bne_eq_false_iff_eq, (hS.pair x hxm).2.2.1]
          exact prio_eq h h2
         refine Ok.row (by simp) hx1 (Ok.cnd (R := fun b => (b = true ↔ i = w)) ?_ fun c1 hc1 => Ok.cnd (R := fun b => b = false) ?_ fun c2 hc2 => Ok.brF hc2 (Ok.cnd (R := fun b => b = decide (w < i + 1)) ?_ fun c3 hc3 => Ok.done ?_))
         ·rw [← hlike]
          unfold likeK
          rw [el, er, SLike.mk.injEq]
          refine Ok.row hxI.lc hxI.loc (Ok.br (fun k1 => Ok.row hxI.rc hxI.rem (Ok.br (fun k2 => Ok.row hxI.lc hxI.loc (Ok.done ?_)) (fun k2 => Ok.done ?_))) (fun k1 => Ok.done ?_))
          ·rw [beq_iff_eq]
           exact ⟨fun h => ⟨eA_iff.1 k1, eA_iff.1 k2, h⟩, fun h => h.2.2⟩
          ·refine ⟨fun h => by simp at h, fun h => ?_⟩
           have h8 := (eA_iff (a := (remC ⟨c, a, b, []⟩ x).fAddr) (b := q.fAddr)).2 h.2.1
           rw [h8] at k2; simp at k2
          ·refine ⟨fun h => by simp at h, fun h => ?_⟩
           have h8 := (eA_iff (a := (locC ⟨c, a, b, []⟩ x).fBase) (b := p.fBase)).2 h.1
           rw [h8] at k1; simp at k1
         ·refine Ok.br (fun h => ?_) (fun h => tail)
          have hiw := hc1.1 h
          subst hiw
          rw [hw] at hx2; obtain rfl := Option.some.inj hx2
          exact Ok.brF (by simp) (Ok.brF (by simp; exact hyp) tail)
         ·refine Ok.br (fun h => Ok.done ?_) (fun h => Ok.done ?_)
          ·have : w < i := by simpa using h
           rw [eq_comm, decide_eq_true_eq]; omega
          ·have : ¬ w < i := by simpa using h
           rw [Bool.eq_iff_iff, hc1, decide_eq_true_eq]
           omega
         ·rw [hc3]
          exact Prod.ext rfl (wi64_nat hi (by omega))
        ·subst hz
         refine Ok.br (fun hc => by simp at hc) (fun hc => Ok.done ?_)
         show ((0 : Int), decide (w < ps.length)) = (0, true)
         rw [decide_eq_true hwl]
       ·subst he
        refine Ok.cnd (R := fun b => b = false) (Ok.brF rfl (Ok.done rfl)) fun c1 hc1 => Ok.brF hc1 (Ok.done ?_)
        show (_, _, _, _, _, _, _, _, _) = _
        simp only [wi64_nat hj (by omega : b.length ≤ 1000000)]
    ·subst hz
     exact Ok.br (fun hc => by simp at hc) (fun hc => Ok.done trivial)
   ·show (_, _, _, _, _, _, _, _) = _
    simp only [wi64_nat hk (by omega : a.length ≤ 1000000)]
  ·subst hy
   exact Ok.br (fun hc => by simp at hc) (fun hc => Ok.done trivial)
theorem okLPAIRS (d : SDraft1) (hL : ∀ x, x ∈ d.fLocals → DraftOk x) (hR : ∀ x, x ∈ d.fRemotes → DraftOk x) : SOk (s3 d) (fun r => r = true) := by
 unfold s3
 exact SOk.fn (gLPAIRS d hL hR)
end Go.Proofs.YtioobnkmohikjaaDoor
namespace Go.Proofs.YtioobnkmohikjaaDoor
open Go Go.EV Go.ChangeShapes
set_option maxRecDepth 100000
theorem own : ownKnob Tryd.prog.godebug = none := by kernel_rfl
abbrev laid1 : List (String × DataW Unit) := [("math/bits.deBruijn32tab", Rows.laid_math_bits_deBruijn32tab), ("math/bits.deBruijn64tab", Rows.laid_math_bits_deBruijn64tab), ("internal/strconv.uint64pow10", Rows.laid_internal_strconv_uint64pow10), ("unicode/utf8.acceptRanges", Rows.laid_unicode_utf8_acceptRanges), ("unicode/utf8.first", Rows.laid_unicode_utf8_first)]
theorem shaped1 (os : Os) : (World.laidAll Tryd.prog os laid1).Shaped Tryd.prog := World.shaped_of_ZipB (by kernel_rfl) (by kernel_rfl)
theorem laid_met (os : Os) (args : Array Value) : laidMetH Tryd.prog laid1 ((World.laidAll Tryd.prog os laid1).forCall (fun _ _ => 0) ⟨#[], args, []⟩).memory := by
 rw [MakeChecks.laidMetH_plain _ _ _ (by kernel_rfl)]
 exact laidMet_laidAll _ (by kernel_rfl) (by kernel_rfl)
def gh0 (w : World) : Gh := { loc := fun _ => none, own := fun _ => none, lim := fun B => match w.heap[B]? with | some (.cells cs _ _) => cs.size | _ => 0 }
theorem gh0_lim {w : World} {B o : Nat} {v : Value} (h : cellAt w B o = some v) : o < (gh0 w).lim B := by
 unfold cellAt World.cell? at h
 simp only [gh0]
 cases hb : w.heap[B]? with
 | none => simp [hb] at h
 | some x =>
  cases x with
  | cells cs t fz =>
   simp only [hb] at h
   simp only
   exact (Array.getElem?_eq_some_iff.1 (by simpa using h)).1
  | _ => simp [hb] at h
theorem globOk {w : World} (_ : laidMetH Tryd.prog laid1 w) : GlobOk GG (gh0 w) w := fun g cells hg => by
 unfold GG at hg
 cases hg
theorem keptBut_of_grow {w w' : World} {γ' : Gh} (h : Grow (gh0 w) w γ' w') (may : MemPlace → Prop) : w.keptBut w' may := by
 refine ⟨h.os, h.output, fun i hi => ?_⟩
 have := (h.free i hi rfl).1
 rw [this]
 cases w.heap[i]? with
 | none => trivial
 | some x =>
  cases x with
  | cells c t fr => exact ⟨rfl, rfl, rfl, fun _ _ => rfl⟩
  | map es clock => exact .inr ⟨rfl, rfl⟩
  | _ => rfl
end Go.Proofs.YtioobnkmohikjaaDoor
namespace Go.Proofs.YtioobnkmohikjaaDoor
open Go Go.EV Go.ChangeShapes
set_option maxRecDepth 100000
def CellsD (W : World) (l : List V) (cs : List Value) : Prop := cs.length = l.length ∧ ∀ (i : Nat) (c : V) (v : Value), l[i]? = some c → cs[i]? = some v → RepD (gh0 W).lim W c v
theorem CellsD.one {W : World} {c : V} {v : Value} (h : RepD (gh0 W).lim W c v) : CellsD W [c] [v] := ⟨rfl, fun i c' v' hc hv => by
 cases i with
 | zero => simp at hc hv; subst hc; subst hv; exact h
 | succ i => simp at hc⟩
theorem CellsD.append {W : World} {l m : List V} {cs ds : List Value} (h : CellsD W l cs) (k : CellsD W m ds) : CellsD W (l ++ m) (cs ++ ds) :=
  ⟨by simp [h.1, k.1], fun i c v hc hv => by
    by_cases hi : i < l.length
    · rw [List.getElem?_append_left hi] at hc
      rw [List.getElem?_append_left (by rw [h.1]; exact hi)] at hv
      exact h.2 i c v hc hv
    · rw [List.getElem?_append_right (by omega)] at hc
      rw [List.getElem?_append_right (by rw [h.1]; omega), h.1] at hv
      exact k.2 _ c v hc hv⟩
def Rd (t : TypeId) {α : Type} (c : α → List V) (I : α → Prop) : Prop :=
 ∀ (H : Type) (enc : TypeId × Value → H) (W : World) (fuel : Nat) (cs : List Value) (x : DataW H × List MemPlace), DataW.trod enc Tryd.prog W 0 (fun _ => true) true fuel t cs = some x → ∃ a : α, I a ∧ CellsD W (c a) cs
theorem rdInt {t : TypeId} {k : IntKind} (ht : Tryd.prog.underlying t = some (.int k)) : Rd t (fun n : Int => [.int k n]) (fun n => (Lit.int k n).wf = true) := fun H enc W fuel cs x h => by
 obtain ⟨n, rfl, _, hw⟩ := DataW.trod_int ht h
 exact ⟨n, hw, .one (.int k n)⟩
theorem rdBool {t : TypeId} (ht : Tryd.prog.underlying t = some .bool) : Rd t (fun b : Bool => [.bool b]) (fun _ => True) := fun H enc W fuel cs x h => by
 cases fuel with
 | zero => simp [DataW.trod] at h
 | succ n =>
  unfold DataW.trod at h
  rw [ht] at h
  split at h <;> first | exact ⟨_, trivial, .one (.bool _)⟩ | simp_all
theorem fld {H : Type} {enc : TypeId × Value → H} {W : World} {n : Nat} {fs : Array Field} {cs : List Value} {xs : List (DataW H × List MemPlace)} {t o z : Nat} {α : Type} {c : α → List V} {I : α → Prop}
  (hel : ∀ (i : Nat) (f : Field), fs[i]? = some f → DataW.trod enc Tryd.prog W 0 (fun _ => true) true n f.type ((cs.drop f.offset).take (Tryd.prog.cellsOf f.type)) = xs[i]?) (hn : xs.length = fs.size) (i : Nat)
  (hf : (fs[i]?).map (fun f => (f.type, f.offset)) = some (t, o)) (hz : Tryd.prog.cellsOf t = z) (r : Rd t c I) : ∃ a : α, I a ∧ CellsD W (c a) ((cs.drop o).take z) := by
 obtain ⟨f, h1, h2⟩ := Option.map_eq_some_iff.1 hf
 simp only [Prod.mk.injEq] at h2
 obtain ⟨rfl, rfl⟩ := h2
 have hi : i < xs.length := by rw [hn]; exact (Array.getElem?_eq_some_iff.1 h1).1
 have := hel i f h1
 rw [List.getElem?_eq_getElem hi, hz] at this
 exact r H enc W n _ _ this
theorem fldA {H : Type} {enc : TypeId × Value → H} {W : World} {n m : Nat} {cs : List Value} {xs : List (DataW H × List MemPlace)} {t z : Nat} {α : Type} {c : α → List V} {I : α → Prop}
  (hel : ∀ (i : Nat), i < m → DataW.trod enc Tryd.prog W 0 (fun _ => true) true n t ((cs.drop (i * Tryd.prog.cellsOf t)).take (Tryd.prog.cellsOf t)) = xs[i]?) (hn : xs.length = m) (i : Nat) (hi : i < m)
  (hz : Tryd.prog.cellsOf t = z) (r : Rd t c I) : ∃ a : α, I a ∧ CellsD W (c a) ((cs.drop (i * z)).take z) := by
 have := hel i hi
 rw [List.getElem?_eq_getElem (by omega), hz] at this
 exact r H enc W n _ _ this
theorem cells_at {W : World} {a : Addr} {z : Nat} {ci : List Value} (h : W.cells? 0 a z = some ci) : ci.length = z ∧ ∀ r, r < z → W.cell? (a.add r) = ci[r]? := by
 unfold World.cells? at h
 rw [if_pos (Nat.zero_le _)] at h
 exact ⟨by simpa using mapM_some_length h, fun r hr => mapM_some_get h r r (by simp [hr])⟩
theorem spot_of {W : World} {a : Addr} {z q : Nat} {ci : List Value} (hz : 0 < z) (h : W.cells? 0 (a.add (q * z)) z = some ci) (hq : q = 0) : a.spot = none := by
 obtain ⟨h1, h2⟩ := cells_at h
 have h3 := h2 0 hz
 have e : (a.add (q * z)).add 0 = a := by subst hq; simp [Addr.add]
 rw [e, List.getElem?_eq_getElem (by omega)] at h3
 exact World.cell?_spot h3
theorem rdSlice {t e z : Nat} {α : Type} {ty : Ty α} {I : α → Prop} (ht : Tryd.prog.underlying t = some (.slice e)) (hz : Tryd.prog.cellsOf e = z) (hpos : 0 < z) (hlen : ∀ a, (ty.c a).length = z) (r : Rd e ty.c I) :
  Rd t (fun l : List α => [.sl false z (l.map ty.c)]) (fun l => ∀ a, a ∈ l → I a) := fun H enc W fuel cs x h => by
 rcases DataW.trod_slice ht h with ⟨rfl, -⟩ | ⟨a, len, cap, elems, rest, n, rfl, rfl, -, -, hlc, -, hel, hE, hR, -⟩
 ·exact ⟨[], by simp, .one (.slNil false z)⟩
 rw [hz] at hE hR
 have build : ∀ m, m ≤ len → ∃ l : List α, l.length = m ∧ (∀ a, a ∈ l → I a) ∧ ∀ i x, l[i]? = some x → ∃ ci, W.cells? 0 (a.add (i * z)) z = some ci ∧ CellsD W (ty.c x) ci := by
  intro m
  induction m with
  | zero => intro _; exact ⟨[], rfl, by simp, by simp⟩
  | succ m ih =>
   intro hm
   obtain ⟨l, l1, l2, l3⟩ := ih (by omega)
   have := hE m (by omega)
   rw [List.getElem?_eq_getElem (by omega)] at this
   obtain ⟨ci, hci, htr⟩ := Option.bind_eq_some_iff.1 this
   obtain ⟨y, hy, hcd⟩ := r H enc W n ci _ htr
   refine ⟨l ++ [y], by simp [l1], fun b hb => ?_, fun i x hx => ?_⟩
   ·rcases List.mem_append.1 hb with hb | hb
    ·exact l2 b hb
    ·rw [List.mem_singleton.1 hb]; exact hy
   ·by_cases hi : i < l.length
    ·rw [List.getElem?_append_left hi] at hx; exact l3 i x hx
    ·rw [List.getElem?_append_right (by omega)] at hx
     have hi2 : i - l.length = 0 := by
      have := (List.getElem?_eq_some_iff.1 hx).1
      simp at this; omega
     rw [hi2] at hx; simp at hx; subst hx
     have : i = m := by omega
     subst this
     exact ⟨ci, hci, hcd⟩
 obtain ⟨l, hl, hI, hc⟩ := build len (Nat.le_refl _)
 refine ⟨l, hI, .one ?_⟩
 by_cases hcap : cap = 0
 ·have : l = [] := List.length_eq_zero_iff.1 (by omega)
  subst this
  have h0 : len = 0 := by simpa using hl.symm
  subst h0; subst hcap
  exact .slNil false z (some a)
 have hspot : a.spot = none := by
  by_cases h0 : len = 0
  ·obtain ⟨r1, r2⟩ := hR rfl
   have := r2 0 (by omega)
   rw [List.getElem?_eq_getElem (by omega)] at this
   obtain ⟨ci, hci, _⟩ := Option.bind_eq_some_iff.1 this
   exact spot_of hpos (q := len + 0) hci (by omega)
  ·have := hE 0 (by omega)
   rw [List.getElem?_eq_getElem (by omega)] at this
   obtain ⟨ci, hci, _⟩ := Option.bind_eq_some_iff.1 this
   exact spot_of hpos hci rfl
 obtain ⟨B, o, sp⟩ := a
 simp only at hspot
 subst hspot
 have hsz : ∀ q, q ∈ l.map ty.c → q.length = z := fun q hq => by
  obtain ⟨y, _, rfl⟩ := List.mem_map.1 hq; exact hlen y
 have key : ∀ (i : Nat) (c : V), (l.map ty.c).flatten[i]? = some c → ∃ v, cellAt W B (o + i) = some v ∧ RepD (gh0 W).lim W c v := fun i c hci => by
  have e1 : i = (i / z) * z + i % z := by rw [Nat.mul_comm]; exact (Nat.div_add_mod i z).symm
  have hm := Nat.mod_lt i hpos
  rw [e1, flatten_get _ hsz _ _ hm, List.getElem?_map] at hci
  cases hx : l[i / z]? with
  | none => rw [hx] at hci; simp at hci
  | some y =>
   rw [hx] at hci
   simp only [Option.map_some, Option.bind_some] at hci
   obtain ⟨ci, k1, k2⟩ := hc _ _ hx
   obtain ⟨k3, k4⟩ := cells_at k1
   have k5 := k4 (i % z) hm
   have hv : ci[i % z]? = some (ci[i % z]'(by omega)) := List.getElem?_eq_getElem _
   refine ⟨_, ?_, k2.2 _ _ _ hci hv⟩
   rw [hv] at k5
   rw [Addr.add_eq, Addr.add_eq] at k5
   unfold cellAt
   rw [show o + i = o + (i / z) * z + i % z by omega]
   exact k5
 have fin := RepD.sl (lim := (gh0 W).lim) (w := W) false z (l.map ty.c) B o cap (fun i => (cellAt W B (o + i)).getD default) (by simp; omega) hsz
  (fun i c hci => by obtain ⟨v, v1, v2⟩ := key i c hci; rw [v1]; exact ⟨gh0_lim v1, rfl⟩) (fun i c hci => by obtain ⟨v, v1, v2⟩ := key i c hci; rw [v1]; exact v2)
 rw [List.length_map, hl] at fin
 exact fin
noncomputable def fsOf (t : TypeId) : Array Field := match Tryd.prog.underlying t with | some (.struct f) => f | _ => #[]
theorem open_agg {H : Type} {enc : TypeId × Value → H} {W : World} {t : TypeId} {α : Type} {c : α → List V} {I : α → Prop} (r : Rd t c I) {v : Value} {d : DataW H} {p : List MemPlace} (hv : ∃ cs, v = .agg cs)
  (h : DataW.Trod enc Tryd.prog W 0 (fun _ => true) true t v d p) : ∃ a : α, I a ∧ Rep (gh0 W) W (ofL []) uTop (.agg (c a)) v := by
 obtain ⟨cs, rfl⟩ := hv
 obtain ⟨fuel, hf⟩ := h
 obtain ⟨a, hi, hc⟩ := r H enc W fuel _ _ hf
 refine ⟨a, hi, ?_⟩
 have := Rep.agg (γ := gh0 W) (w := W) (bs := ofL []) (u := uTop) (c a) cs.toList hc.1 (fun i x y hx hy => .data (hc.2 i x y hx hy))
 simpa using this
theorem agg_struct {W : World} {base : Nat} {t : TypeId} {v : Value} {fs : Array Field} (ht : Tryd.prog.underlying t = some (.struct fs)) (h : Value.okWide Tryd.prog W .any base t v) : ∃ cs, v = .agg cs := by
 simp only [Value.okWide, ht] at h
 obtain ⟨cs, h1, _⟩ := h
 exact ⟨cs, h1⟩
theorem laidOut : laidOutB Tryd.prog = true := by kernel_rfl
theorem below_of_grow {w w' : World} {γ' : Gh} (h : Grow (gh0 w) w γ' w') : RowKit.Below w.heap.size w w' :=
 ⟨h.os, h.tape, h.output, h.size, fun k hk => (h.free k hk rfl).1⟩
section
variable {H : Type} {enc : TypeId × Value → H} {P : Program} {w : World} {base : Nat} {spare : Nat → Bool} {held : Bool}
end
theorem w8_iff {n : Int} (h : (Lit.int .u8 n).wf = true) : 0 ≤ n ∧ n ≤ 255 := by
 simp [Lit.wf, IntKind.min, IntKind.max, IntKind.signed, IntKind.bits] at h; omega
theorem w16_iff {n : Int} (h : (Lit.int .u16 n).wf = true) : 0 ≤ n ∧ n ≤ 65535 := by
 simp [Lit.wf, IntKind.min, IntKind.max, IntKind.signed, IntKind.bits] at h; omega
end Go.Proofs.YtioobnkmohikjaaDoor
namespace Go.Proofs.YtioobnkmohikjaaDoor
open Go Go.EV
set_option maxRecDepth 100000
theorem u25 : Tryd.prog.underlying 25 = some (.struct (fsOf 25)) := by kernel_rfl
theorem z25 : Tryd.prog.cellsOf 25 = 4 := by kernel_rfl
theorem u22 : Tryd.prog.underlying 22 = some (.slice 65) := by kernel_rfl
theorem z22 : Tryd.prog.cellsOf 22 = 1 := by kernel_rfl
theorem u65 : Tryd.prog.underlying 65 = some (.struct (fsOf 65)) := by kernel_rfl
theorem z65 : Tryd.prog.cellsOf 65 = 6 := by kernel_rfl
theorem u5 : Tryd.prog.underlying 5 = some (.int .u8) := by kernel_rfl
theorem z5 : Tryd.prog.cellsOf 5 = 1 := by kernel_rfl
theorem u63 : Tryd.prog.underlying 63 = some (.int .u16) := by kernel_rfl
theorem z63 : Tryd.prog.cellsOf 63 = 1 := by kernel_rfl
theorem ln6 {α : Type} {l : List α} (h : l.length = 6) : ∃ v0 v1 v2 v3 v4 v5, l = [v0, v1, v2, v3, v4, v5] := by match l, h with | [v0, v1, v2, v3, v4, v5], _ => exact ⟨v0, v1, v2, v3, v4, v5, rfl⟩
def c65 (x : SDraft) : List V := [.int .u8 x.fKind, .int .u8 x.fComponent, .int .u8 x.fAddr, .int .u8 x.fBase, .int .u8 x.fServer, .int .u16 x.fPreference]
def Ok65 (x : SDraft) : Prop := (Lit.int .u8 x.fKind).wf = true ∧ (Lit.int .u8 x.fComponent).wf = true ∧ (Lit.int .u8 x.fAddr).wf = true ∧ (Lit.int .u8 x.fBase).wf = true ∧ (Lit.int .u8 x.fServer).wf = true ∧ (Lit.int .u16 x.fPreference).wf = true
theorem rd65 : Rd 65 c65 Ok65 := fun H enc W fuel cs x h => by
 obtain ⟨xs, m, rfl, -, hl, hn, hel⟩ := DataW.trod_struct u65 h
 rw [z65] at hl
 obtain ⟨v0, v1, v2, v3, v4, v5, rfl⟩ := ln6 hl
 obtain ⟨a0, i0, k0⟩ := fld hel hn 0 (t := 5) (o := 0) (by kernel_rfl) z5 (rdInt u5)
 obtain ⟨a1, i1, k1⟩ := fld hel hn 1 (t := 5) (o := 1) (by kernel_rfl) z5 (rdInt u5)
 obtain ⟨a2, i2, k2⟩ := fld hel hn 2 (t := 5) (o := 2) (by kernel_rfl) z5 (rdInt u5)
 obtain ⟨a3, i3, k3⟩ := fld hel hn 3 (t := 5) (o := 3) (by kernel_rfl) z5 (rdInt u5)
 obtain ⟨a4, i4, k4⟩ := fld hel hn 4 (t := 5) (o := 4) (by kernel_rfl) z5 (rdInt u5)
 obtain ⟨a5, i5, k5⟩ := fld hel hn 5 (t := 63) (o := 5) (by kernel_rfl) z63 (rdInt u63)
 exact ⟨⟨a0, a1, a2, a3, a4, a5⟩, ⟨i0, i1, i2, i3, i4, i5⟩, k0.append (k1.append (k2.append (k3.append (k4.append k5))))⟩
def Ok22 (l : List SDraft) : Prop := ∀ a, a ∈ l → Ok65 a
theorem rd22 : Rd 22 (fun l : List SDraft => [.sl false 6 (l.map tySDraft.c)]) Ok22 := rdSlice (ty := tySDraft) u22 z65 (by omega) (fun _ => rfl) rd65
theorem u4 : Tryd.prog.underlying 4 = some .bool := by kernel_rfl
theorem z4 : Tryd.prog.cellsOf 4 = 1 := by kernel_rfl
theorem u23 : Tryd.prog.underlying 23 = some (.slice 174) := by kernel_rfl
theorem z23 : Tryd.prog.cellsOf 23 = 1 := by kernel_rfl
theorem u174 : Tryd.prog.underlying 174 = some (.array 2 5) := by kernel_rfl
theorem z174 : Tryd.prog.cellsOf 174 = 2 := by kernel_rfl
theorem ln2 {α : Type} {l : List α} (h : l.length = 2) : ∃ v0 v1, l = [v0, v1] := by match l, h with | [v0, v1], _ => exact ⟨v0, v1, rfl⟩
def c174 (x : S2Uint8) : List V := [.int .u8 x.a0, .int .u8 x.a1]
def Ok174 (x : S2Uint8) : Prop := (Lit.int .u8 x.a0).wf = true ∧ (Lit.int .u8 x.a1).wf = true
theorem rd174 : Rd 174 c174 Ok174 := fun H enc W fuel cs x h => by
 obtain ⟨xs, m, rfl, -, hl, hn, hel⟩ := DataW.trod_array u174 h
 rw [z174] at hl
 obtain ⟨v0, v1, rfl⟩ := ln2 hl
 obtain ⟨a0, i0, k0⟩ := fldA hel hn 0 (by omega) z5 (rdInt u5)
 obtain ⟨a1, i1, k1⟩ := fldA hel hn 1 (by omega) z5 (rdInt u5)
 exact ⟨⟨a0, a1⟩, ⟨i0, i1⟩, k0.append k1⟩
def Ok23 (l : List S2Uint8) : Prop := ∀ a, a ∈ l → Ok174 a
theorem rd23 : Rd 23 (fun l : List S2Uint8 => [.sl false 2 (l.map tyS2Uint8.c)]) Ok23 := rdSlice (ty := tyS2Uint8) u23 z174 (by omega) (fun _ => rfl) rd174
theorem ln4 {α : Type} {l : List α} (h : l.length = 4) : ∃ v0 v1 v2 v3, l = [v0, v1, v2, v3] := by match l, h with | [v0, v1, v2, v3], _ => exact ⟨v0, v1, v2, v3, rfl⟩
def c25 (x : SDraft1) : List V := [.sl false 6 (List.map tySDraft.c x.fLocals), .sl false 6 (List.map tySDraft.c x.fRemotes), .bool x.fControlling, .sl false 2 (List.map tyS2Uint8.c x.fSet)]
def Ok25 (x : SDraft1) : Prop := Ok22 x.fLocals ∧ Ok22 x.fRemotes ∧ True ∧ Ok23 x.fSet
theorem rd25 : Rd 25 c25 Ok25 := fun H enc W fuel cs x h => by
 obtain ⟨xs, m, rfl, -, hl, hn, hel⟩ := DataW.trod_struct u25 h
 rw [z25] at hl
 obtain ⟨v0, v1, v2, v3, rfl⟩ := ln4 hl
 obtain ⟨a0, i0, k0⟩ := fld hel hn 0 (t := 22) (o := 0) (by kernel_rfl) z22 rd22
 obtain ⟨a1, i1, k1⟩ := fld hel hn 1 (t := 22) (o := 1) (by kernel_rfl) z22 rd22
 obtain ⟨a2, i2, k2⟩ := fld hel hn 2 (t := 4) (o := 2) (by kernel_rfl) z4 (rdBool u4)
 obtain ⟨a3, i3, k3⟩ := fld hel hn 3 (t := 23) (o := 3) (by kernel_rfl) z23 rd23
 exact ⟨⟨a0, a1, a2, a3⟩, ⟨i0, i1, i2, i3⟩, k0.append (k1.append (k2.append k3))⟩
end Go.Proofs.YtioobnkmohikjaaDoor
namespace Go.Proofs.YtioobnkmohikjaaDoor
open Go Go.EV
set_option maxRecDepth 100000
def DraftsOk (d : SDraft1) : Prop := (∀ x, x ∈ d.fLocals → DraftOk x) ∧ (∀ x, x ∈ d.fRemotes → DraftOk x)
theorem drafts_of {d : SDraft1} (h : Ok25 d) : DraftsOk d := ⟨fun x hx => have k := h.1 x hx; ⟨w8_iff k.1, w8_iff k.2.1, w8_iff k.2.2.1, w8_iff k.2.2.2.1, w8_iff k.2.2.2.2.1, w16_iff k.2.2.2.2.2⟩, fun x hx => have k := h.2.1 x hx; ⟨w8_iff k.1, w8_iff k.2.1, w8_iff k.2.2.1, w8_iff k.2.2.2.1, w8_iff k.2.2.2.2.1, w16_iff k.2.2.2.2.2⟩⟩
end Go.Proofs.YtioobnkmohikjaaDoor
