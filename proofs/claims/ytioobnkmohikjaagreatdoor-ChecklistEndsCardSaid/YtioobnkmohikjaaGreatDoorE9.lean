/- When a checklist is valid: the program and its reference hold one condition; what pairs have in common, their priorities. No conditions.
   Next, Settled, Turn and Set: the program and its reference come to the same for every list. No conditions.
   Guides and contracts, printed by a program.
   Next: the program and its reference come to the same for every list; Same says yes to what is equal. No conditions but on lengths.
   The drafted and bent lists: they come about for every draft, and are short.
   Guides and contracts, printed by a program.
   The pairs of candidates that fit, gathered: a range over a function (a method value), put together by hand.
   The pairs that wait, set: a range over a map whose rounds come out alike in whatever order they are made.
   Guides and contracts, printed by a program.
   Guides and contracts, printed by a program.
   Guides and contracts, printed by a program. -/
import Derived.Test.YtioobnkmohikjaaGreatDoorE8
import Derived.Test.YtioobnkmohikjaaGreatDoorE6
import Derived.Test.YtioobnkmohikjaaGreatDoorE7
import Derived.KernelRfl
namespace Go.Proofs.YtioobnkmohikjaaGreatDoor
open Go Go.EV
set_option maxRecDepth 100000
def mapTo {α : Type} (f : α → α) (L : List α) (k : Nat) : List α := (L.take k).map f ++ L.drop k
theorem mapTo_get {α : Type} (f : α → α) (L : List α) {k : Nat} (hk : k ≤ L.length) (i : Nat) : (mapTo f L k)[i]? = (L[i]?).map fun x => if i < k then f x else x := by
 unfold mapTo
 have hl : ((L.take k).map f).length = k := by simp; omega
 by_cases h : i < k
 ·rw [List.getElem?_append_left (by omega), List.getElem?_map, List.getElem?_take, if_pos h]
  cases L[i]? <;> simp [h]
 ·rw [List.getElem?_append_right (by omega), hl, List.getElem?_drop, show k + (i - k) = i by omega]
  cases L[i]? <;> simp [h]
theorem mapTo_len {α : Type} (f : α → α) (L : List α) {k : Nat} (hk : k ≤ L.length) : (mapTo f L k).length = L.length := by
 unfold mapTo; simp; omega
theorem mapTo_zero {α : Type} (f : α → α) (L : List α) : mapTo f L 0 = L := by simp [mapTo]
theorem mapTo_last {α : Type} (f : α → α) (L : List α) : mapTo f L L.length = L.map f := by simp [mapTo]
theorem mapTo_here {α : Type} (f : α → α) {L : List α} {k : Nat} (hk : k < L.length) : (mapTo f L k)[k]? = L[k]? := by
 rw [mapTo_get f L (by omega)]
 cases L[k]? <;> simp
theorem mapTo_set {α : Type} (f : α → α) {L : List α} {k : Nat} {x : α} (hx : L[k]? = some x) : (mapTo f L k).set k (f x) = mapTo f L (k + 1) := by
 have hk := (List.getElem?_eq_some_iff.1 hx).1
 refine List.ext_getElem? fun i => ?_
 rw [mapTo_get f L (by omega)]
 by_cases h : i = k
 ·subst h
  rw [List.getElem?_set_self (by rw [mapTo_len f L (by omega)]; exact hk), hx]
  simp
 ·rw [List.getElem?_set_ne (Ne.symm h), mapTo_get f L (by omega)]
  cases L[i]? with
  | none => rfl
  | some y =>
   simp only [Option.map_some, Option.some.injEq]
   by_cases h1 : i < k
   ·rw [if_pos h1, if_pos (by omega)]
   ·rw [if_neg h1, if_neg (by omega)]
theorem mapTo_skip {α : Type} (f : α → α) {L : List α} {k : Nat} {x : α} (hx : L[k]? = some x) (h : f x = x) : mapTo f L k = mapTo f L (k + 1) := by
 rw [← mapTo_set f hx, h]
 have hk := (List.getElem?_eq_some_iff.1 hx).1
 refine List.ext_getElem? fun i => ?_
 by_cases hi : i = k
 ·subst hi
  rw [List.getElem?_set_self (by rw [mapTo_len f L (by omega)]; exact hk), mapTo_here f hk, hx]
 ·rw [List.getElem?_set_ne (Ne.symm hi)]
def c0 : SCandidate := ⟨0, 0, 0, ByteArray.empty, ⟨ByteArray.empty, 0⟩, ⟨ByteArray.empty, 0⟩⟩
def locC (l : SList) (x : SPair) : SCandidate := (l.fLocals[x.fLocal.toNat]?).getD c0
def remC (l : SList) (x : SPair) : SCandidate := (l.fRemotes[x.fRemote.toNat]?).getD c0
def InB (l : SList) (x : SPair) : Prop := (0 ≤ x.fLocal ∧ x.fLocal < (l.fLocals.length : Int)) ∧ (0 ≤ x.fRemote ∧ x.fRemote < (l.fRemotes.length : Int))
theorem InB.loc {l : SList} {x : SPair} (h : InB l x) : l.fLocals[x.fLocal.toNat]? = some (locC l x) := by
 obtain ⟨y, hy⟩ := at_of h.1.1 h.1.2
 unfold locC; rw [hy]; rfl
theorem InB.rem {l : SList} {x : SPair} (h : InB l x) : l.fRemotes[x.fRemote.toNat]? = some (remC l x) := by
 obtain ⟨y, hy⟩ := at_of h.2.1 h.2.2
 unfold remC; rw [hy]; rfl
theorem InB.lc {l : SList} {x : SPair} (h : InB l x) : decide (0 ≤ x.fLocal) = true := by simpa using h.1.1
theorem InB.rc {l : SList} {x : SPair} (h : InB l x) : decide (0 ≤ x.fRemote) = true := by simpa using h.2.1
theorem InB.locOk {l : SList} {x : SPair} (h : InB l x) (hc : CandsOk l.fLocals) : CandOk (locC l x) := hc _ (List.mem_of_getElem? h.loc)
theorem InB.remOk {l : SList} {x : SPair} (h : InB l x) (hc : CandsOk l.fRemotes) : CandOk (remC l x) := hc _ (List.mem_of_getElem? h.rem)
def ppr (a b : Int) : Int := if b < a then b * 4294967296 + 2 * a + 1 else a * 4294967296 + 2 * b
theorem okPP (a b : Int) (ha : 1 ≤ a ∧ a ≤ 2147483647) (hb : 1 ≤ b ∧ b ≤ 2147483647) : SOk (s71 a b) (fun r => r = (ppr a b, 0)) := by
 show Ok (g71 a b) _
 unfold g71
 refine Ok.cnd (R := fun c => c = false) (Ok.call (okWITHIN _ _ _) fun r hr => Ok.br (fun k => ?_) (fun k => Ok.call (okWITHIN _ _ _) fun r2 hr2 => Ok.done ?_)) fun c hc => ?_
 ·simp only [Bool.not_eq_true'] at k; subst k; have := hr.2 ha; simp at this
 ·cases r2 with
  | true => rfl
  | false => have := hr2.2 hb; simp at this
 ·subst hc
  have sh : ∀ x : Int, 1 ≤ x → x ≤ 2147483647 → bShl .i64 x 32 = x * 4294967296 := fun x h1 h2 => by
   show IntKind.i64.wrap (x * 2 ^ (min (32 : Int).toNat 64)) = _
   have e : (2 : Int) ^ (min (32 : Int).toNat 64) = 4294967296 := by decide
   rw [e]
   exact wi64_id (by omega) (by omega)
  refine Ok.brF rfl (Ok.br (fun h => Ok.done ?_) (fun h => Ok.done ?_))
  ·simp only [decide_eq_true_eq] at h
   have e1 : (if b < a then b else a) = b := if_pos h
   have e2 : (if b > a then b else a) = a := if_neg (by omega)
   rw [e1, e2, sh b hb.1 hb.2, wi64_id (n := 2 * a) (by omega) (by omega), wi64_id (n := b * 4294967296 + 2 * a) (by omega) (by omega), wi64_id (by omega) (by omega)]
   unfold ppr; rw [if_pos h]
  ·simp only [decide_eq_false_iff_not] at h
   have e1 : (if b < a then b else a) = a := if_neg h
   have e2 : (if b > a then b else a) = b := by split <;> omega
   rw [e1, e2, sh a ha.1 ha.2, wi64_id (n := 2 * b) (by omega) (by omega), wi64_id (by omega) (by omega)]
   unfold ppr; rw [if_neg h]
theorem okRPP (a b : Int) (ha : 1 ≤ a ∧ a ≤ 2147483647) (hb : 1 ≤ b ∧ b ≤ 2147483647) : SOk (s68 a b) (fun r => r = (ppr a b, 0)) := by
 show Ok (g68 a b) _
 unfold g68
 refine Ok.cnd (R := fun c => c = false) (Ok.brF (by simp; omega) (Ok.brF (by simp; omega) (Ok.brF (by simp; omega) (Ok.done (by simp; omega))))) fun c hc => ?_
 subst hc
 refine Ok.brF rfl (Ok.br (fun h => Ok.done ?_) (fun h => Ok.done ?_))
 ·simp only [decide_eq_true_eq] at h
  rw [wi64_id (n := b * 4294967296) (by omega) (by omega), wi64_id (n := 2 * a) (by omega) (by omega), wi64_id (n := b * 4294967296 + 2 * a) (by omega) (by omega), wi64_id (by omega) (by omega)]
  unfold ppr; rw [if_pos h]
 ·simp only [decide_eq_false_iff_not] at h
  rw [wi64_id (n := a * 4294967296) (by omega) (by omega), wi64_id (n := 2 * b) (by omega) (by omega), wi64_id (by omega) (by omega)]
  unfold ppr; rw [if_neg h]
def prio (l : SList) (x : SPair) : Int := bif l.fControlling then ppr (locC l x).fPriority (remC l x).fPriority else ppr (remC l x).fPriority (locC l x).fPriority
theorem okPRIO (l : SList) (x : SPair) (h : InB l x) (hl : CandsOk l.fLocals) (hr : CandsOk l.fRemotes) : SOk (s56 (SPlanner.mk l) x) (fun r => r = prio l x) := by
 show Ok (g56 (SPlanner.mk l) x) _
 unfold g56 prio
 have h1 := (h.locOk hl).2.2.1
 have h2 := (h.remOk hr).2.2.1
 refine Ok.row h.lc h.loc (Ok.row h.rc h.rem ?_)
 cases l.fControlling with
 | false => exact Ok.bind (R := fun e => e = ((remC l x).fPriority, (locC l x).fPriority)) (Ok.brT rfl (Ok.done rfl)) fun e he => by subst he; exact Ok.call (okPP _ _ h2 h1) fun r hr => Ok.done (by rw [hr]; rfl)
 | true => exact Ok.bind (R := fun e => e = ((locC l x).fPriority, (remC l x).fPriority)) (Ok.brF rfl (Ok.done rfl)) fun e he => by subst he; exact Ok.call (okPP _ _ h1 h2) fun r hr => Ok.done (by rw [hr]; rfl)
theorem okRPRIO (l : SList) (x : SPair) (h : InB l x) (hl : CandsOk l.fLocals) (hr : CandsOk l.fRemotes) : SOk (s41 l x) (fun r => r = prio l x) := by
 show Ok (g41 l x) _
 unfold g41 prio
 have h1 := (h.locOk hl).2.2.1
 have h2 := (h.remOk hr).2.2.1
 refine Ok.row h.lc h.loc (Ok.row h.rc h.rem ?_)
 cases l.fControlling with
 | true => exact Ok.brT rfl (Ok.call (okRPP _ _ h1 h2) fun r hr => Ok.done (by rw [hr]; rfl))
 | false => exact Ok.brF rfl (Ok.call (okRPP _ _ h2 h1) fun r hr => Ok.done (by rw [hr]; rfl))
def likeK (l : SList) (x : SPair) : SLike := ⟨(locC l x).fBase, (remC l x).fAddr, (locC l x).fComponent⟩
def foundK (l : SList) (x : SPair) : S2String := ⟨(locC l x).fFoundation, (remC l x).fFoundation⟩
theorem okLIKE (l : SList) (x : SPair) (h : InB l x) : SOk (s36 (SPlanner.mk l) x) (fun r => r = likeK l x) := by
 show Ok (g36 (SPlanner.mk l) x) _
 unfold g36
 exact Ok.row h.lc h.loc (Ok.row h.rc h.rem (Ok.done rfl))
theorem okFOUND (l : SList) (x : SPair) (h : InB l x) : SOk (s37 (SPlanner.mk l) x) (fun r => r = foundK l x) := by
 show Ok (g37 (SPlanner.mk l) x) _
 unfold g37
 exact Ok.row h.lc h.loc (Ok.row h.rc h.rem (Ok.done rfl))
theorem okALIKE (l : SList) (x y : SPair) (h : InB l x) (k : InB l y) : SOk (s43 l x y) (fun b => (b = true ↔ likeK l x = likeK l y)) := by
 show Ok (g43 l x y) _
 unfold g43 likeK
 refine Ok.row h.lc h.loc (Ok.row h.rc h.rem (Ok.row k.lc k.loc (Ok.row k.rc k.rem ?_)))
 simp only [SLike.mk.injEq]
 refine Ok.cnd (R := fun b => (b = true ↔ (locC l x).fBase = (locC l y).fBase ∧ (remC l x).fAddr = (remC l y).fAddr ∧ (locC l x).fComponent = (locC l y).fComponent)) ?_ fun b hb => Ok.done hb
 refine Ok.br (fun k1 => Ok.br (fun k2 => Ok.done ?_) (fun k2 => Ok.done ?_)) (fun k1 => Ok.done ?_)
 ·have e1 := eA_iff.1 k1; have e2 := eA_iff.1 k2
  rw [beq_iff_eq]
  exact ⟨fun h => ⟨e1, e2, h⟩, fun h => h.2.2⟩
 ·exact ⟨fun h => by simp at h, fun h => by rw [eA_iff.2 h.2.1] at k2; simp at k2⟩
 ·exact ⟨fun h => by simp at h, fun h => by rw [eA_iff.2 h.1] at k1; simp at k1⟩
theorem okRELATED (l : SList) (x y : SPair) (h : InB l x) (k : InB l y) : SOk (s44 l x y) (fun b => (b = true ↔ foundK l x = foundK l y)) := by
 show Ok (g44 l x y) _
 unfold g44 foundK
 simp only [S2String.mk.injEq]
 refine Ok.cnd (R := fun b => (b = true ↔ (locC l x).fFoundation = (locC l y).fFoundation ∧ (remC l x).fFoundation = (remC l y).fFoundation)) ?_ fun b hb => Ok.done hb
 refine Ok.row h.lc h.loc (Ok.row k.lc k.loc (Ok.br (fun k1 => Ok.row h.rc h.rem (Ok.row k.rc k.rem (Ok.done ?_))) (fun k1 => Ok.done ?_)))
 ·simp only [decide_eq_true_eq] at k1 ⊢
  exact ⟨fun h => ⟨k1, h⟩, fun h => h.2⟩
 ·simp only [decide_eq_false_iff_not] at k1
  exact ⟨fun h => by simp at h, fun h => absurd h.1 k1⟩
def FitP (a b : SCandidate) : Prop := a.fComponent = b.fComponent ∧ (a.fAddr.fHost.size : Int) = (b.fAddr.fHost.size : Int)
theorem okFIT (a b : SCandidate) : SOk (s64 a b) (fun c => (c = true ↔ FitP a b)) := by
 show Ok (g64 a b) _
 unfold g64 FitP
 refine Ok.cnd (R := fun c => (c = true ↔ a.fComponent = b.fComponent ∧ (a.fAddr.fHost.size : Int) = (b.fAddr.fHost.size : Int))) ?_ fun c hc => Ok.done hc
 refine Ok.br (fun h => Ok.done ?_) (fun h => Ok.done ?_)
 ·rw [beq_iff_eq] at h ⊢; exact ⟨fun k => ⟨h, k⟩, fun k => k.2⟩
 ·rw [beq_eq_false_iff_ne] at h; exact ⟨fun k => by simp at k, fun k => absurd k.1 h⟩
theorem okRFIT (a b : SCandidate) : SOk (s40 a b) (fun c => (c = true ↔ FitP a b)) := by
 show Ok (g40 a b) _
 unfold g40 FitP
 refine Ok.cnd (R := fun c => (c = true ↔ a.fComponent = b.fComponent ∧ (a.fAddr.fHost.size : Int) = (b.fAddr.fHost.size : Int))) ?_ fun c hc => Ok.done hc
 refine Ok.br (fun h => Ok.done ?_) (fun h => Ok.done ?_)
 ·rw [beq_iff_eq] at h ⊢; exact ⟨fun k => ⟨h, k⟩, fun k => k.2⟩
 ·rw [beq_eq_false_iff_ne] at h; exact ⟨fun k => by simp at k, fun k => absurd k.1 h⟩
def PairOk (l : SList) (x : SPair) : Prop := InB l x ∧ (0 ≤ x.fState ∧ x.fState ≤ 4) ∧ FitP (locC l x) (remC l x) ∧ x.fPriority = prio l x
def HeadOk (l : SList) : Prop := l.fLocals.length ≤ 12 ∧ l.fRemotes.length ≤ 12 ∧ l.fPairs.length ≤ 36 ∧ CandsOk l.fLocals ∧ CandsOk l.fRemotes
def ValidL (l : SList) : Prop := HeadOk l ∧ (∀ x, x ∈ l.fPairs → PairOk l x) ∧ (l.fPairs.map (likeK l)).Nodup
theorem likeP_iff {a b : SLike} : ((decide (a.fbase.fHost = b.fbase.fHost)) && ((a.fbase.fPort == b.fbase.fPort) && ((decide (a.faddr.fHost = b.faddr.fHost)) && ((a.faddr.fPort == b.faddr.fPort) && ((a.fcomponent == b.fcomponent) && true))))) = true ↔ a = b := by
 obtain ⟨⟨a1, a2⟩, ⟨a3, a4⟩, a5⟩ := a
 obtain ⟨⟨b1, b2⟩, ⟨b3, b4⟩, b5⟩ := b
 simp only [Bool.and_eq_true, decide_eq_true_eq, beq_iff_eq, and_true, SLike.mk.injEq, SAddr.mk.injEq, and_assoc]
theorem okVALID (l : SList) : SOk (s48 (SPlanner.mk l)) (fun b => (b = true ↔ ValidL l)) := by
 show Ok (g48 (SPlanner.mk l)) _
 unfold g48 ValidL
 simp only [mlen_eq]
 refine Ok.cnd (R := fun b => (b = true ↔ ¬ HeadOk l)) ?_ fun b hb => ?_
 ·unfold HeadOk
  refine Ok.br (fun k1 => Ok.done ?_) (fun k1 => Ok.br (fun k2 => Ok.done ?_) (fun k2 => Ok.br (fun k3 => Ok.done ?_) (fun k3 => ?_)))
  ·simp only [decide_eq_true_eq] at k1; exact ⟨fun _ h => by omega, fun _ => rfl⟩
  ·simp only [decide_eq_true_eq] at k2; exact ⟨fun _ h => by omega, fun _ => rfl⟩
  ·simp only [decide_eq_true_eq] at k3; exact ⟨fun _ h => by omega, fun _ => rfl⟩
  ·simp only [decide_eq_false_iff_not] at k1 k2 k3
   refine Ok.call (okCANDS _ (by omega)) fun r1 h1 => Ok.br (fun k4 => Ok.done ?_) (fun k4 => Ok.call (okCANDS _ (by omega)) fun r2 h2 => Ok.done ?_)
   ·simp only [Bool.not_eq_true'] at k4; subst k4
    exact ⟨fun _ h => by have := h1.2 h.2.2.2.1; simp at this, fun _ => rfl⟩
   ·simp only [Bool.not_eq_false'] at k4
    have e1 := h1.1 k4
    cases r2 with
    | true => exact ⟨fun h => by simp at h, fun h => absurd ⟨by omega, by omega, by omega, e1, h2.1 rfl⟩ h⟩
    | false => exact ⟨fun _ h => by have := h2.2 h.2.2.2.2; simp at this, fun _ => rfl⟩
 ·refine Ok.br (fun h1 => Ok.done ⟨fun h => by simp at h, fun h => absurd h.1 (hb.1 h1)⟩) (fun h1 => ?_)
  have hH : HeadOk l := Classical.byContradiction fun hn => by rw [hb.2 hn] at h1; simp at h1
  refine Ok.opr rfl ?_
  refine Ok.bind2 (R := fun e => match e with | .inl _ => ¬ ((∀ x, x ∈ l.fPairs → PairOk l x) ∧ (l.fPairs.map (likeK l)).Nodup) | .inr _ => (∀ x, x ∈ l.fPairs → PairOk l x) ∧ (l.fPairs.map (likeK l)).Nodup) ?_ (fun e he => Ok.done ⟨fun h => by simp at h, fun h => absurd h.2 he⟩) (fun e he => Ok.done ⟨fun _ => ⟨hH, he⟩, fun _ => rfl⟩)
  have hlen : l.fPairs.length ≤ 36 := hH.2.2.1
  refine Ok.scan l.fPairs.length (by omega) (fun k y => y.2 = (k : Int) ∧ SetOf SEnt86.fk SEnt86.fv y.1 ((l.fPairs.take k).map (likeK l)) ∧ (∀ j x, j < k → l.fPairs[j]? = some x → PairOk l x) ∧ ((l.fPairs.take k).map (likeK l)).Nodup) ⟨rfl, SetOf.nil _ _, fun j c h => by omega, by simp⟩ (fun k y hy hk => ?_) (fun y hy => ?_)
  ·obtain ⟨hi, hs, hd, hn⟩ := hy
   obtain ⟨y1, y2⟩ := y
   simp only at hi hs
   subst hi
   refine Ok.br (fun hc => ?_) (fun hc => by simp at hc; omega)
   obtain ⟨x, hx1, hx2⟩ := get_lt hk
   have hxm := List.mem_of_getElem? hx2
   refine Ok.row (by simp) hx1 ?_
   refine Ok.cnd (R := fun b => (b = true ↔ ¬ (InB l x ∧ (0 ≤ x.fState ∧ x.fState ≤ 4)))) ?_ fun b2 hb2 => ?_
   ·unfold InB
    refine Ok.br (fun k1 => Ok.done ?_) (fun k1 => Ok.br (fun k2 => Ok.done ?_) (fun k2 => Ok.br (fun k3 => Ok.done ?_) (fun k3 => Ok.br (fun k4 => Ok.done ?_) (fun k4 => Ok.br (fun k5 => Ok.done ?_) (fun k5 => Ok.done ?_)))))
    all_goals (simp only [decide_eq_true_eq, decide_eq_false_iff_not] at *; first | (exact ⟨fun _ h => by omega, fun _ => trivial⟩) | (constructor <;> intro h <;> omega))
   ·refine Ok.br (fun k1 => Ok.done ?_) (fun k1 => ?_)
    ·exact fun h => hb2.1 k1 ⟨(h.1 x hxm).1, (h.1 x hxm).2.1⟩
    ·have hIS : InB l x ∧ (0 ≤ x.fState ∧ x.fState ≤ 4) := Classical.byContradiction fun hn => by rw [hb2.2 hn] at k1; simp at k1
     obtain ⟨hI, hS⟩ := hIS
     refine Ok.cnd (R := fun b => (b = true ↔ ¬ (FitP (locC l x) (remC l x) ∧ x.fPriority = prio l x ∧ likeK l x ∉ (l.fPairs.take k).map (likeK l)))) ?_ fun b3 hb3 => ?_
     ·refine Ok.row hI.lc hI.loc (Ok.row hI.rc hI.rem (Ok.call (okFIT _ _) fun f hf => Ok.br (fun k2 => Ok.done ?_) (fun k2 => Ok.call (okPRIO l x hI hH.2.2.2.1 hH.2.2.2.2) fun p hp => Ok.br (fun k3 => Ok.done ?_) (fun k3 => Ok.call (okLIKE l x hI) fun q hq => Ok.opr rfl (Ok.done ?_)))))
      ·simp only [Bool.not_eq_true'] at k2; subst k2
       exact ⟨fun _ h => by have := hf.2 h.1; simp at this, fun _ => rfl⟩
      ·rw [bne_iff_ne, hp] at k3
       exact ⟨fun _ h => k3 h.2.1, fun _ => rfl⟩
      ·simp only [Bool.not_eq_false'] at k2
       rw [bne_eq_false_iff_eq, hp] at k3
       subst hq
       rw [hs.look (x := likeK l x) (fun e => likeP_iff)]
       exact ⟨fun h h' => h'.2.2 h, fun h => Classical.byContradiction fun h' => h ⟨hf.1 k2, k3, h'⟩⟩
     ·refine Ok.br (fun k2 => Ok.done ?_) (fun k2 => ?_)
      ·intro h
       have hP := h.1 x hxm
       refine hb3.1 k2 ⟨hP.2.2.1, hP.2.2.2, fun hm => ?_⟩
       have h2 := h.2
       rw [← List.take_append_drop (k + 1) l.fPairs, List.map_append, take_succ_map hx2] at h2
       exact (nodup_app.1 (List.nodup_append.1 h2).1).2 hm
      ·have h3 : FitP (locC l x) (remC l x) ∧ x.fPriority = prio l x ∧ likeK l x ∉ (l.fPairs.take k).map (likeK l) := Classical.byContradiction fun hn => by rw [hb3.2 hn] at k2; simp at k2
       refine Ok.call (okLIKE l x hI) fun q hq => Ok.opr rfl (Ok.done ?_)
       subst hq
       refine ⟨wi64_nat hk (by omega), ?_, upto2 (p := PairOk l) hd hx2 ⟨hI, hS, h3.1, h3.2.1⟩, ?_⟩
       ·rw [take_succ_map hx2]
        exact hs.put (x := likeK l x) (fun e => likeP_iff) rfl rfl
       ·rw [take_succ_map hx2]
        exact nodup_app.2 ⟨hn, h3.2.2⟩
  ·obtain ⟨hi, hs, hd, hn⟩ := hy
   obtain ⟨y1, y2⟩ := y
   simp only at hi hs
   subst hi
   refine Ok.br (fun hc => by simp at hc) (fun hc => Ok.done ⟨fun x hx => ?_, by simpa using hn⟩)
   obtain ⟨j, hj⟩ := List.mem_iff_getElem?.1 hx
   exact hd j x (List.getElem?_eq_some_iff.1 hj).1 hj
theorem okRIGHT (l : SList) : SOk (s15 l) (fun b => (b = true ↔ ValidL l)) := by
 show Ok (g15 l) _
 unfold g15 ValidL
 simp only [mlen_eq]
 refine Ok.cnd (R := fun b => (b = true ↔ ¬ HeadOk l)) ?_ fun b hb => ?_
 ·unfold HeadOk
  refine Ok.br (fun k1 => Ok.done ?_) (fun k1 => Ok.br (fun k2 => Ok.done ?_) (fun k2 => Ok.br (fun k3 => Ok.done ?_) (fun k3 => ?_)))
  ·simp only [decide_eq_true_eq] at k1; exact ⟨fun _ h => by omega, fun _ => rfl⟩
  ·simp only [decide_eq_true_eq] at k2; exact ⟨fun _ h => by omega, fun _ => rfl⟩
  ·simp only [decide_eq_true_eq] at k3; exact ⟨fun _ h => by omega, fun _ => rfl⟩
  ·simp only [decide_eq_false_iff_not] at k1 k2 k3
   refine Ok.call (okALL _ (by omega)) fun r1 h1 => Ok.br (fun k4 => Ok.done ?_) (fun k4 => Ok.call (okALL _ (by omega)) fun r2 h2 => Ok.done ?_)
   ·simp only [Bool.not_eq_true'] at k4; subst k4
    exact ⟨fun _ h => by have := h1.2 h.2.2.2.1; simp at this, fun _ => rfl⟩
   ·simp only [Bool.not_eq_false'] at k4
    have e1 := h1.1 k4
    cases r2 with
    | true => exact ⟨fun h => by simp at h, fun h => absurd ⟨by omega, by omega, by omega, e1, h2.1 rfl⟩ h⟩
    | false => exact ⟨fun _ h => by have := h2.2 h.2.2.2.2; simp at this, fun _ => rfl⟩
 ·refine Ok.br (fun h1 => Ok.done ⟨fun h => by simp at h, fun h => absurd h.1 (hb.1 h1)⟩) (fun h1 => ?_)
  have hH : HeadOk l := Classical.byContradiction fun hn => by rw [hb.2 hn] at h1; simp at h1
  refine Ok.bind2 (R := fun e => match e with | .inl _ => ¬ ((∀ x, x ∈ l.fPairs → PairOk l x) ∧ (l.fPairs.map (likeK l)).Nodup) | .inr _ => (∀ x, x ∈ l.fPairs → PairOk l x) ∧ (l.fPairs.map (likeK l)).Nodup) ?_ (fun e he => Ok.done ⟨fun h => by simp at h, fun h => absurd h.2 he⟩) (fun e he => Ok.done ⟨fun _ => ⟨hH, he⟩, fun _ => rfl⟩)
  have hlen : l.fPairs.length ≤ 36 := hH.2.2.1
  refine Ok.scan l.fPairs.length (by omega) (fun k y => y = (k : Int) ∧ (∀ j x, j < k → l.fPairs[j]? = some x → PairOk l x) ∧ ((l.fPairs.take k).map (likeK l)).Nodup) ⟨rfl, fun j c h => by omega, by simp⟩ (fun k y hy hk => ?_) (fun y hy => ?_)
  ·obtain ⟨hi, hd, hn⟩ := hy
   subst hi
   refine Ok.br (fun hc => ?_) (fun hc => by simp at hc; omega)
   obtain ⟨x, hx1, hx2⟩ := get_lt hk
   have hxm := List.mem_of_getElem? hx2
   refine Ok.row (by simp) hx1 ?_
   refine Ok.cnd (R := fun b => (b = true ↔ ¬ PairOk l x)) ?_ fun b2 hb2 => ?_
   ·unfold PairOk
    refine Ok.br (fun k1 => Ok.done ?_) (fun k1 => Ok.br (fun k2 => Ok.done ?_) (fun k2 => Ok.br (fun k3 => Ok.done ?_) (fun k3 => Ok.br (fun k4 => Ok.done ?_) (fun k4 => Ok.br (fun k5 => Ok.done ?_) (fun k5 => Ok.br (fun k6 => Ok.done ?_) (fun k6 => ?_))))))
    all_goals simp only [decide_eq_true_eq, decide_eq_false_iff_not] at *
    ·exact ⟨fun _ h => by have := h.1.1; omega, fun _ => trivial⟩
    ·exact ⟨fun _ h => by have := h.1.1; omega, fun _ => trivial⟩
    ·exact ⟨fun _ h => by have := h.1.2; omega, fun _ => trivial⟩
    ·exact ⟨fun _ h => by have := h.1.2; omega, fun _ => trivial⟩
    ·exact ⟨fun _ h => by have := h.2.1; omega, fun _ => trivial⟩
    ·exact ⟨fun _ h => by have := h.2.1; omega, fun _ => trivial⟩
    ·have hI : InB l x := ⟨by omega, by omega⟩
     refine Ok.row hI.lc hI.loc (Ok.row hI.rc hI.rem (Ok.call (okRFIT _ _) fun f hf => Ok.br (fun k2 => Ok.done ?_) (fun k2 => Ok.call (okRPRIO l x hI hH.2.2.2.1 hH.2.2.2.2) fun p hp => Ok.done ?_)))
     ·simp only [Bool.not_eq_true'] at k2; subst k2
      exact ⟨fun _ h => by have := hf.2 h.2.2.1; simp at this, fun _ => rfl⟩
     ·simp only [Bool.not_eq_false'] at k2
      rw [bne_iff_ne, hp]
      exact ⟨fun h h' => h h'.2.2.2, fun h h' => h ⟨hI, by omega, hf.1 k2, h'⟩⟩
   ·refine Ok.br (fun k1 => Ok.done ?_) (fun k1 => ?_)
    ·exact fun h => hb2.1 k1 (h.1 x hxm)
    ·have hP : PairOk l x := Classical.byContradiction fun hn => by rw [hb2.2 hn] at k1; simp at k1
     refine Ok.bind2 (R := fun e => match e with | .inl _ => likeK l x ∈ (l.fPairs.take k).map (likeK l) | .inr _ => likeK l x ∉ (l.fPairs.take k).map (likeK l)) ?_ (fun e he => Ok.done ?_) (fun e he => Ok.done ?_)
     ·refine Ok.scan k (by omega) (fun q y => y = (q : Int) ∧ ∀ j z, j < q → l.fPairs[j]? = some z → likeK l x ≠ likeK l z) ⟨rfl, fun j c h => by omega⟩ (fun q y hy hq => ?_) (fun y hy => ?_)
      ·obtain ⟨rfl, he⟩ := hy
       refine Ok.br (fun hc => ?_) (fun hc => by simp at hc; omega)
       obtain ⟨z, hz1, hz2⟩ := get_lt (l := l.fPairs) (k := q) (by omega)
       refine Ok.row (by simp) hz1 (Ok.call (okALIKE l x z hP.1 (hd q z hq hz2).1) fun a ha => Ok.br (fun k2 => Ok.done ?_) (fun k2 => Ok.done ?_))
       ·exact List.mem_map.2 ⟨z, mem_take_iff.2 ⟨q, hq, hz2⟩, (ha.1 k2).symm⟩
       ·exact ⟨wi64_nat hq (by omega), upto2 (p := fun z => likeK l x ≠ likeK l z) he hz2 fun e => by rw [ha.2 e] at k2; simp at k2⟩
      ·obtain ⟨rfl, he⟩ := hy
       refine Ok.br (fun hc => by simp at hc) (fun hc => Ok.done ?_)
       intro hm
       obtain ⟨z, hz, e⟩ := List.mem_map.1 hm
       obtain ⟨j, hj, hjz⟩ := mem_take_iff.1 hz
       exact he j z hj hjz e.symm
     ·intro h
      have h2 := h.2
      rw [← List.take_append_drop (k + 1) l.fPairs, List.map_append, take_succ_map hx2] at h2
      exact (nodup_app.1 (List.nodup_append.1 h2).1).2 he
     ·refine ⟨wi64_nat hk (by omega), upto2 (p := PairOk l) hd hx2 hP, ?_⟩
      rw [take_succ_map hx2]
      exact nodup_app.2 ⟨hn, he⟩
  ·obtain ⟨rfl, hd, hn⟩ := hy
   refine Ok.br (fun hc => by simp at hc) (fun hc => Ok.done ⟨fun x hx => ?_, by simpa using hn⟩)
   obtain ⟨j, hj⟩ := List.mem_iff_getElem?.1 hx
   exact hd j x (List.getElem?_eq_some_iff.1 hj).1 hj
end Go.Proofs.YtioobnkmohikjaaGreatDoor
namespace Go.Proofs.YtioobnkmohikjaaGreatDoor
open Go Go.EV
set_option maxRecDepth 100000
open Classical
def l0 : SList := ⟨false, [], [], []⟩
theorem okSTART (l : SList) : SOk (s49 l) (fun r => match r with | .inl _ => ¬ ValidL l | .inr _ => ValidL l) := by
 show Ok (g49 l) _
 unfold g49
 refine Ok.view (okVALID l) fun r hr => Ok.br (fun h => Ok.done ?_) (fun h => ?_)
 ·simp only [Bool.not_eq_true'] at h; subst h
  exact fun hv => by have := hr.2 hv; simp at this
 ·simp only [Bool.not_eq_false'] at h
  have hv := hr.1 h
  refine Ok.call (R := fun _ => True) ?_ fun _ _ => Ok.done hv
  show Ok (g69 l.fPairs) _
  unfold g69
  exact Ok.app (by have := hv.1.2.2.1; simp; omega) (Ok.done trivial)
theorem okCOPIED (l : SList) (h : l.fPairs.length ≤ 1000000) : SOk (s57 l) (fun r => r = l.fPairs) := by
 show Ok (g57 l) _
 unfold g57
 exact Ok.app (by simp; omega) (Ok.done (by simp))
noncomputable def setlF (l : SList) : Bool × Int := if ValidL l then (decide (∀ x, x ∈ l.fPairs → 3 ≤ x.fState), 0) else (false, 100)
theorem okSETTLED (l : SList) : SOk (s19 l) (fun r => r = setlF l) := by
 show Ok (g19 l) _
 unfold g19 setlF
 refine Ok.call2 (okSTART l) (fun r hv => Ok.tt (Ok.done (by rw [if_neg hv]))) (fun r hv => ?_)
 have hlen : l.fPairs.length ≤ 36 := hv.1.2.2.1
 refine Ok.ff (Ok.view (R := fun b => (b = true ↔ ¬ ∀ x, x ∈ l.fPairs → 3 ≤ x.fState)) ?_ fun b hb => Ok.done ?_)
 ·show Ok (g55 l.fPairs) _
  unfold g55
  refine Ok.call (R := fun i => (0 ≤ i ↔ ¬ ∀ x, x ∈ l.fPairs → 3 ≤ x.fState)) ?_ fun i hi => Ok.done (by simpa using hi)
  show Ok (g70 l.fPairs) _
  unfold g70
  simp only [mlen_eq]
  refine Ok.bind2 (R := fun e => match e with | .inl i => 0 ≤ i ∧ ¬ ∀ x, x ∈ l.fPairs → 3 ≤ x.fState | .inr _ => ∀ x, x ∈ l.fPairs → 3 ≤ x.fState) ?_ (fun e he => Ok.done ⟨fun _ => he.2, fun _ => he.1⟩) (fun e he => Ok.done ⟨fun h => by simp at h, fun h => absurd he h⟩)
  refine Ok.scan l.fPairs.length (by omega) (fun k y => y = (k : Int) ∧ ∀ j (c : SPair), j < k → l.fPairs[j]? = some c → 3 ≤ c.fState) ⟨rfl, fun j c h => by omega⟩ (fun k y hy hk => ?_) (fun y hy => ?_)
  ·obtain ⟨rfl, hd⟩ := hy
   refine Ok.br (fun hc => ?_) (fun hc => by simp at hc; omega)
   obtain ⟨x, hx1, hx2⟩ := get_lt hk
   refine Ok.row (by simp) hx1 (Ok.call (R := fun b => b = decide (x.fState < 3)) ⟨_, rfl, rfl⟩ fun b hb => ?_)
   subst hb
   refine Ok.br (fun p1 => Ok.done ?_) (fun p1 => Ok.done ?_)
   ·simp only [decide_eq_true_eq] at p1
    exact ⟨by omega, fun h => by have := h x (List.mem_of_getElem? hx2); omega⟩
   ·simp only [decide_eq_false_iff_not] at p1
    exact ⟨wi64_nat hk (by omega), upto2 (p := fun c : SPair => 3 ≤ c.fState) hd hx2 (by omega)⟩
  ·obtain ⟨rfl, hd⟩ := hy
   refine Ok.br (fun hc => by simp at hc) (fun hc => Ok.done ?_)
   intro c hc
   obtain ⟨j, hj⟩ := List.mem_iff_getElem?.1 hc
   exact hd j c (List.getElem?_eq_some_iff.1 hj).1 hj
 ·rw [if_pos hv]
  cases b with
  | true => rw [decide_eq_false (hb.1 rfl)]; rfl
  | false => rw [decide_eq_true (Classical.byContradiction fun hn => by have := hb.2 hn; simp at this)]; rfl
def withP (l : SList) (c : Bool) (ps : List SPair) : SList := ⟨c, l.fLocals, l.fRemotes, ps⟩
def putS (x : SPair) (st : Int) : SPair := ⟨x.fLocal, x.fRemote, x.fPriority, st⟩
noncomputable def wakeX (l : SList) (p : SPair) (st : Int) (x : SPair) : SPair := if st = 3 ∧ x.fState = 0 ∧ foundK l x = foundK l p then putS x 1 else x
noncomputable def setF (l : SList) (i st : Int) : SList × Int :=
 if ValidL l then (if 0 ≤ i ∧ i < (l.fPairs.length : Int) ∧ 0 ≤ st ∧ st ≤ 4 then
   (match l.fPairs[i.toNat]? with | some p => (withP l l.fControlling ((l.fPairs.set i.toNat (putS p st)).map (wakeX l p st)), 0) | none => (l0, 2))
  else (l0, 2)) else (l0, 100)
theorem found_eq {a b : S2String} : ((decide (a.a0 = b.a0)) && ((decide (a.a1 = b.a1)) && true)) = true ↔ a = b := by
 cases a; cases b; simp
theorem wake_at {l : SList} {p : SPair} {st : Int} {i : Nat} {k : Nat} {j : Nat} {y : SPair} (hk : k ≤ l.fPairs.length) (hy : (mapTo (wakeX l p st) (l.fPairs.set i (putS p st)) k)[j]? = some y) (hp : l.fPairs[i]? = some p) :
  ∃ z, l.fPairs[j]? = some z ∧ y.fLocal = z.fLocal ∧ y.fRemote = z.fRemote := by
 rw [mapTo_get _ _ (by rw [List.length_set]; exact hk)] at hy
 obtain ⟨w, hw, rfl⟩ := Option.map_eq_some_iff.1 hy
 have hw2 : ∃ z, l.fPairs[j]? = some z ∧ w.fLocal = z.fLocal ∧ w.fRemote = z.fRemote := by
  by_cases e : i = j
  ·subst e
   have := (List.getElem?_eq_some_iff.1 hp).1
   rw [List.getElem?_set_self this] at hw
   simp only [Option.some.injEq] at hw
   exact ⟨p, hp, by rw [← hw]; exact ⟨rfl, rfl⟩⟩
  ·rw [List.getElem?_set_ne e] at hw
   exact ⟨w, hw, rfl, rfl⟩
 obtain ⟨z, z1, z2, z3⟩ := hw2
 refine ⟨z, z1, ?_⟩
 split
 ·unfold wakeX; split
  ·exact ⟨z2, z3⟩
  ·exact ⟨z2, z3⟩
 ·exact ⟨z2, z3⟩
theorem inB_same {l : SList} {x y : SPair} (h1 : y.fLocal = x.fLocal) (h2 : y.fRemote = x.fRemote) (h : InB l x) : InB l y := by
 unfold InB at *; rw [h1, h2]; exact h
theorem foundK_same {l : SList} {x y : SPair} (h1 : y.fLocal = x.fLocal) (h2 : y.fRemote = x.fRemote) : foundK l y = foundK l x := by
 unfold foundK locC remC; rw [h1, h2]
theorem okSET (l : SList) (i st : Int) : SOk (s23 l i st) (fun r => r = setF l i st) := by
 show Ok (g23 l i st) _
 unfold g23 setF
 refine Ok.call2 (okSTART l) (fun r hv => Ok.tt (Ok.done (by rw [if_neg hv]; rfl))) (fun r hv => ?_)
 have hlen : l.fPairs.length ≤ 36 := hv.1.2.2.1
 rw [if_pos hv]
 refine Ok.ff (Ok.cnd (R := fun b => (b = true ↔ ¬ (0 ≤ i ∧ i < (l.fPairs.length : Int) ∧ 0 ≤ st ∧ st ≤ 4))) ?_ fun b hb => ?_)
 ·refine Ok.br (fun k1 => Ok.done ?_) (fun k1 => Ok.br (fun k2 => Ok.done ?_) (fun k2 => Ok.br (fun k3 => Ok.done ?_) (fun k3 => Ok.done ?_)))
  all_goals (simp at *; omega)
 ·refine Ok.br (fun h => Ok.done (by rw [if_neg (hb.1 h)]; rfl)) (fun h => ?_)
  have hA : 0 ≤ i ∧ i < (l.fPairs.length : Int) ∧ 0 ≤ st ∧ st ≤ 4 := Classical.byContradiction fun hn => by rw [hb.2 hn] at h; simp at h
  obtain ⟨p, hp⟩ := at_of hA.1 hA.2.1
  rw [if_pos hA, hp]
  have hpI := (hv.2.1 p (List.mem_of_getElem? hp)).1
  have hil := (List.getElem?_eq_some_iff.1 hp).1
  refine Ok.chk (by simp; omega) (Ok.row rfl (by rw [Nat.zero_add]; exact hp) (Ok.re (Ok.gh ?_)))
  rw [Nat.zero_add]
  refine Ok.bind (R := fun e => e = (l.fPairs.set i.toNat (putS p st)).map (wakeX l p st)) ?_ fun e he => Ok.gh (Ok.done (by rw [he]; rfl))
  have hL : (l.fPairs.set i.toNat (SPair.mk p.fLocal p.fRemote p.fPriority st)).length = l.fPairs.length := List.length_set
  rw [hL]
  refine Ok.scan l.fPairs.length (by omega) (fun k y => k ≤ l.fPairs.length ∧ y = (mapTo (wakeX l p st) (l.fPairs.set i.toNat (putS p st)) k, (k : Int))) ⟨Nat.zero_le _, by rw [mapTo_zero]; rfl⟩ (fun k y hy hk => ?_) (fun y hy => ?_)
  ·obtain ⟨hkl, rfl⟩ := hy
   have hk2 : k < (l.fPairs.set i.toNat (putS p st)).length := by rw [List.length_set]; exact hk
   have hlk : (mapTo (wakeX l p st) (l.fPairs.set i.toNat (putS p st)) k).length = l.fPairs.length := by rw [mapTo_len _ _ (by omega), List.length_set]
   refine Ok.br (fun hc => ?_) (fun hc => by simp at hc; omega)
   obtain ⟨x, hx1, hx2⟩ := get_lt hk2
   have hx3 : (mapTo (wakeX l p st) (l.fPairs.set i.toNat (putS p st)) k)[0 + ((k : Int)).toNat]? = some x := by rw [Nat.zero_add, Int.toNat_natCast, mapTo_here _ hk2, hx2]
   obtain ⟨z, z1, z2, z3⟩ := wake_at hkl (by rw [mapTo_here _ hk2]; exact hx2) hp
   have hxI : InB l x := inB_same z2 z3 (hv.2.1 z (List.mem_of_getElem? z1)).1
   obtain ⟨q, hq⟩ : ∃ q, (mapTo (wakeX l p st) (l.fPairs.set i.toNat (putS p st)) k)[i.toNat]? = some q := ⟨_, List.getElem?_eq_getElem (by rw [hlk]; exact hil)⟩
   obtain ⟨z', z1', z2', z3'⟩ := wake_at hkl hq hp
   rw [hp] at z1'; simp only [Option.some.injEq] at z1'; subst z1'
   have hqI : InB l q := inB_same z2' z3' hpI
   refine Ok.chk (by simp [hlk]; omega) (Ok.row rfl hx3 ?_)
   refine Ok.cnd (R := fun b => (b = true ↔ (st = 3 ∧ x.fState = 0 ∧ foundK l x = foundK l p))) ?_ fun b2 hb2 => ?_
   ·refine Ok.br (fun k1 => Ok.br (fun k2 => ?_) (fun k2 => Ok.done ?_)) (fun k1 => Ok.done ?_)
    ·simp only [beq_iff_eq] at k1 k2
     refine Ok.view (okFOUND (withP l l.fControlling (mapTo (wakeX l p st) (l.fPairs.set i.toNat (putS p st)) k)) x hxI) fun r1 h1 => Ok.chk (by simp [hlk]; omega) (Ok.row rfl hq (Ok.view (okFOUND (withP l l.fControlling (mapTo (wakeX l p st) (l.fPairs.set i.toNat (putS p st)) k)) q hqI) fun r2 h2 => Ok.done ?_))
     rw [found_eq, h1, h2]
     show foundK l x = foundK l q ↔ _
     rw [foundK_same z2' z3']
     exact ⟨fun h => ⟨k1, k2, h⟩, fun h => h.2.2⟩
    ·simp only [beq_eq_false_iff_ne] at k2
     exact ⟨fun h => by simp at h, fun h => absurd h.2.1 k2⟩
    ·simp only [beq_eq_false_iff_ne] at k1
     exact ⟨fun h => by simp at h, fun h => absurd h.1 k1⟩
   ·refine Ok.br (fun h1 => Ok.chk (by simp [hlk]; omega) (Ok.row rfl hx3 (Ok.re (Ok.gh (Ok.done ?_))))) (fun h1 => Ok.done ?_)
    ·have e : wakeX l p st x = putS x 1 := by unfold wakeX; rw [if_pos (hb2.1 h1)]
     have e2 := mapTo_set (wakeX l p st) hx2
     rw [e] at e2
     refine ⟨hk, ?_⟩
     rw [Nat.zero_add, Int.toNat_natCast, wi64_nat hk (by omega)]
     exact congrArg (fun z => (z, ((k + 1 : Nat) : Int))) e2
    ·have e : wakeX l p st x = x := by unfold wakeX; rw [if_neg (fun h => by rw [hb2.2 h] at h1; simp at h1)]
     refine ⟨hk, ?_⟩
     rw [wi64_nat hk (by omega), ← mapTo_skip _ hx2 e]
  ·obtain ⟨hkl, rfl⟩ := hy
   refine Ok.br (fun hc => by simp at hc) (fun hc => Ok.done ?_)
   show mapTo _ _ _ = _
   have := mapTo_last (wakeX l p st) (l.fPairs.set i.toNat (putS p st))
   rw [List.length_set] at this
   exact this
end Go.Proofs.YtioobnkmohikjaaGreatDoor
namespace Go.Proofs.YtioobnkmohikjaaGreatDoor
open Go Go.EV
set_option maxRecDepth 100000
structure S2Uint8 where
 a0 : Int
 a1 : Int
structure SDraft1 where
 fLocals : (List SDraft)
 fRemotes : (List SDraft)
 fControlling : Bool
 fSet : (List S2Uint8)
def tyS2Uint8 : Ty S2Uint8 := ⟨fun x => [.int .u8 x.a0, .int .u8 x.a1], fun x => [.int .u8 x.a0, .int .u8 x.a1], fun _ => rfl, fun _ => rfl, fun _ _ => rfl, fun _ => rfl⟩
end Go.Proofs.YtioobnkmohikjaaGreatDoor
namespace Go.Proofs.YtioobnkmohikjaaGreatDoor
open Go Go.EV
set_option maxRecDepth 100000
open Classical
noncomputable def bestN (L : List SPair) (is : SPair → Prop) : Nat → Int
 | 0 => -1
 | k + 1 => match L[k]? with
  | some x => if is x ∧ (bestN L is k < 0 ∨ ∃ y, L[(bestN L is k).toNat]? = some y ∧ y.fPriority < x.fPriority) then (k : Int) else bestN L is k
  | none => bestN L is k
theorem bestN_low (L : List SPair) (is : SPair → Prop) : ∀ k : Nat, -1 ≤ bestN L is k ∧ bestN L is k < (k : Int)
 | 0 => by simp [bestN]
 | k + 1 => by
  have ih := bestN_low L is k
  unfold bestN
  split
  ·split
   ·omega
   ·omega
  ·omega
theorem bestN_step {L : List SPair} {is : SPair → Prop} {k : Nat} {x : SPair} {c : Bool} (hx : L[k]? = some x) (hc : c = true ↔ is x ∧ (bestN L is k < 0 ∨ ∃ y, L[(bestN L is k).toNat]? = some y ∧ y.fPriority < x.fPriority)) :
  bestN L is (k + 1) = bif c then (k : Int) else bestN L is k := by
 rw [show bestN L is (k + 1) = (match L[k]? with
  | some x => if is x ∧ (bestN L is k < 0 ∨ ∃ y, L[(bestN L is k).toNat]? = some y ∧ y.fPriority < x.fPriority) then (k : Int) else bestN L is k
  | none => bestN L is k) from rfl, hx]
 cases c with
 | true => exact if_pos (hc.1 rfl)
 | false => exact if_neg fun h => by have := hc.2 h; simp at this
theorem better_iff {L : List SPair} {a : Int} {x y : SPair} (h0 : ¬ a < 0) (hy : L[a.toNat]? = some y) : (a < 0 ∨ ∃ z, L[a.toNat]? = some z ∧ z.fPriority < x.fPriority) ↔ y.fPriority < x.fPriority := by
 constructor
 ·rintro (h | ⟨z, h1, h2⟩)
  ·exact absurd h h0
  ·rw [hy] at h1; exact Option.some.inj h1 ▸ h2
 ·exact fun h => .inr ⟨y, hy, h⟩
def runsP (l : SList) (x : SPair) : Prop := ∃ y, y ∈ l.fPairs ∧ y.fState = 2 ∧ foundK l y = foundK l x
noncomputable def nextF (l : SList) : Int × Int :=
 if ValidL l then (if 0 ≤ bestN l.fPairs (fun x => x.fState = 1) l.fPairs.length then (bestN l.fPairs (fun x => x.fState = 1) l.fPairs.length, 0)
  else if 0 ≤ bestN l.fPairs (fun x => x.fState = 0 ∧ ¬ runsP l x) l.fPairs.length then (bestN l.fPairs (fun x => x.fState = 0 ∧ ¬ runsP l x) l.fPairs.length, 0) else (0, 4)) else (0, 100)
theorem okBEST (L : List SPair) (hl : L.length ≤ 1000000) : SOk (s51 L) (fun r => r = bestN L (fun x => x.fState = 1) L.length) := by
 show Ok (g51 L) _
 unfold g51
 simp only [mlen_eq]
 refine Ok.bind (R := fun r => r = bestN L (fun x => x.fState = 1) L.length) ?_ fun e he => Ok.done he
 refine Ok.scan L.length hl (fun k y => y = (bestN L (fun x => x.fState = 1) k, (k : Int))) rfl (fun k y hy hk => ?_) (fun y hy => ?_)
 ·subst hy
  refine Ok.br (fun hc => ?_) (fun hc => by simp at hc; omega)
  obtain ⟨x, hx1, hx2⟩ := get_lt hk
  have hlow := bestN_low L (fun x => x.fState = 1) k
  refine Ok.row (by simp) hx1 (Ok.cnd (R := fun c => (c = true ↔ x.fState = 1 ∧ (bestN L (fun x => x.fState = 1) k < 0 ∨ ∃ y, L[(bestN L (fun x => x.fState = 1) k).toNat]? = some y ∧ y.fPriority < x.fPriority))) ?_ fun c hc2 => ?_)
  ·refine Ok.call (R := fun r => r = (x.fState == 1)) ⟨_, rfl, rfl⟩ fun r hr => ?_
   subst hr
   refine Ok.br (fun h1 => Ok.br (fun h2 => Ok.done ?_) (fun h2 => ?_)) (fun h1 => Ok.done ?_)
   ·rw [beq_iff_eq] at h1; simp only [decide_eq_true_eq] at h2
    exact ⟨fun _ => ⟨h1, .inl h2⟩, fun _ => rfl⟩
   ·rw [beq_iff_eq] at h1; simp only [decide_eq_false_iff_not] at h2
    refine Ok.call (R := fun r => r = x.fPriority) ⟨_, rfl, rfl⟩ fun r hr => ?_
    subst hr
    obtain ⟨y, hy⟩ := at_of (l := L) (i := bestN L (fun x => x.fState = 1) k) (by omega) (by omega)
    refine Ok.row (by simp; omega) hy (Ok.call (R := fun r => r = y.fPriority) ⟨_, rfl, rfl⟩ fun r hr => Ok.done ?_)
    subst hr
    rw [decide_eq_true_eq, better_iff h2 hy]
    exact ⟨fun h => ⟨h1, h⟩, fun h => h.2⟩
   ·rw [beq_eq_false_iff_ne] at h1
    exact ⟨fun h => by simp at h, fun h => absurd h.1 h1⟩
  ·have e := bestN_step (is := fun x => x.fState = 1) hx2 hc2
   refine Ok.br (fun h => Ok.done ?_) (fun h => Ok.done ?_)
   ·subst h; exact Prod.ext e.symm (wi64_nat hk hl)
   ·subst h; exact Prod.ext e.symm (wi64_nat hk hl)
 ·subst hy
  exact Ok.br (fun hc => by simp at hc) (fun hc => Ok.done rfl)
theorem ent104_iff {a : S2String} {e : SEnt104} : ((decide (a.a0 = e.fk.a0)) && ((decide (a.a1 = e.fk.a1)) && true)) = true ↔ a = e.fk := by
 cases a; cases e with | mk k v => cases k; simp
theorem okNEXT3 (x : SPair) (m : List SEnt104) (c : Bool) (ls rs : List SCandidate) (ps : List SPair) (ks : List S2String) (hm : SetOf SEnt104.fk SEnt104.fv m ks) (hI : InB ⟨c, ls, rs, ps⟩ x) :
  SOk (s53 x m c ls rs ps) (fun b => (b = true ↔ x.fState = 0 ∧ foundK ⟨c, ls, rs, ps⟩ x ∉ ks)) := by
 show Ok (g53 x m c ls rs ps) _
 unfold g53
 refine Ok.cnd (R := fun b => (b = true ↔ x.fState = 0 ∧ foundK ⟨c, ls, rs, ps⟩ x ∉ ks)) ?_ fun b hb => Ok.done hb
 refine Ok.br (fun h => Ok.view (okFOUND _ x hI) fun r hr => Ok.opr rfl (Ok.done ?_)) (fun h => Ok.done ?_)
 ·rw [beq_iff_eq] at h
  subst hr
  have := hm.look (x := foundK ⟨c, ls, rs, ps⟩ x) (fun e => ent104_iff)
  rw [Bool.not_eq_true', Bool.eq_false_iff, ne_eq, this]
  exact ⟨fun k => ⟨h, k⟩, fun k => k.2⟩
 ·rw [beq_eq_false_iff_ne] at h
  exact ⟨fun k => by simp at k, fun k => absurd k.1 h⟩
theorem okBEST2 (L : List SPair) (m : List SEnt104) (c : Bool) (ls rs : List SCandidate) (ks : List S2String) (hm : SetOf SEnt104.fk SEnt104.fv m ks) (hI : ∀ x, x ∈ L → InB ⟨c, ls, rs, L⟩ x) (hl : L.length ≤ 1000000) :
  SOk (s51_1 L m c ls rs) (fun r => r = bestN L (fun x => x.fState = 0 ∧ foundK ⟨c, ls, rs, L⟩ x ∉ ks) L.length) := by
 show Ok (g51_1 L m c ls rs) _
 unfold g51_1
 refine Ok.bind (R := fun r => r = bestN L (fun x => x.fState = 0 ∧ foundK ⟨c, ls, rs, L⟩ x ∉ ks) L.length) ?_ fun e he => Ok.done he
 refine Ok.scan L.length hl (fun k y => y = (bestN L (fun x => x.fState = 0 ∧ foundK ⟨c, ls, rs, L⟩ x ∉ ks) k, (k : Int))) rfl (fun k y hy hk => ?_) (fun y hy => ?_)
 ·subst hy
  refine Ok.br (fun hc => ?_) (fun hc => by simp at hc; omega)
  obtain ⟨x, hx1, hx2⟩ := get_lt hk
  have hlow := bestN_low L (fun x => x.fState = 0 ∧ foundK ⟨c, ls, rs, L⟩ x ∉ ks) k
  refine Ok.chk (by simp; omega) (Ok.row rfl (by rw [Nat.zero_add]; exact hx1) (Ok.cnd (R := fun c2 => (c2 = true ↔ (x.fState = 0 ∧ foundK ⟨c, ls, rs, L⟩ x ∉ ks) ∧ (bestN L (fun x => x.fState = 0 ∧ foundK ⟨c, ls, rs, L⟩ x ∉ ks) k < 0 ∨ ∃ y, L[(bestN L (fun x => x.fState = 0 ∧ foundK ⟨c, ls, rs, L⟩ x ∉ ks) k).toNat]? = some y ∧ y.fPriority < x.fPriority))) ?_ fun c2 hc2 => ?_))
  ·obtain ⟨r, er, hr⟩ := okNEXT3 x m c ls rs L ks hm (hI x (List.mem_of_getElem? hx2))
   refine Ok.opr (r := r) er ?_
   refine Ok.br (fun h1 => Ok.br (fun h2 => Ok.done ?_) (fun h2 => ?_)) (fun h1 => Ok.done ?_)
   ·simp only [decide_eq_true_eq] at h2
    exact ⟨fun _ => ⟨hr.1 h1, .inl h2⟩, fun _ => rfl⟩
   ·simp only [decide_eq_false_iff_not] at h2
    refine Ok.call (R := fun r => r = x.fPriority) ⟨_, rfl, rfl⟩ fun r hr2 => ?_
    subst hr2
    obtain ⟨y, hy⟩ := at_of (l := L) (i := bestN L (fun x => x.fState = 0 ∧ foundK ⟨c, ls, rs, L⟩ x ∉ ks) k) (by omega) (by omega)
    refine Ok.chk (by simp; omega) (Ok.row rfl (by rw [Nat.zero_add]; exact hy) (Ok.call (R := fun r => r = y.fPriority) ⟨_, rfl, rfl⟩ fun r hr2 => Ok.done ?_))
    subst hr2
    rw [decide_eq_true_eq, better_iff h2 hy]
    exact ⟨fun h => ⟨hr.1 h1, h⟩, fun h => h.2⟩
   ·subst h1
    exact ⟨fun h => by simp at h, fun h => by have := hr.2 h.1; simp at this⟩
  ·have e := bestN_step (is := fun x => x.fState = 0 ∧ foundK ⟨c, ls, rs, L⟩ x ∉ ks) hx2 hc2
   refine Ok.br (fun h => Ok.done ?_) (fun h => Ok.done ?_)
   ·subst h; exact Prod.ext e.symm (wi64_nat hk hl)
   ·subst h; exact Prod.ext e.symm (wi64_nat hk hl)
 ·subst hy
  exact Ok.br (fun hc => by simp at hc) (fun hc => Ok.done rfl)
theorem bestN_congr {L : List SPair} {p q : SPair → Prop} (h : ∀ x, x ∈ L → (p x ↔ q x)) : ∀ k, bestN L p k = bestN L q k
 | 0 => rfl
 | k + 1 => by
  have ih := bestN_congr h k
  unfold bestN
  split
  ·rename_i x hx
   rw [ih]
   have := h x (List.mem_of_getElem? hx)
   by_cases hc : p x ∧ (bestN L q k < 0 ∨ ∃ y, L[(bestN L q k).toNat]? = some y ∧ y.fPriority < x.fPriority)
   ·rw [if_pos hc, if_pos ⟨this.1 hc.1, hc.2⟩]
   ·rw [if_neg hc, if_neg (fun h => hc ⟨this.2 h.1, h.2⟩)]
  ·exact ih
theorem okNEXT (l : SList) : SOk (s17 l) (fun r => r = nextF l) := by
 show Ok (g17 l) _
 unfold g17 nextF
 refine Ok.call2 (okSTART l) (fun r hv => Ok.tt (Ok.done (by rw [if_neg hv]))) (fun r hv => ?_)
 have hlen : l.fPairs.length ≤ 36 := hv.1.2.2.1
 rw [if_pos hv]
 refine Ok.ff (Ok.view (okBEST l.fPairs (by omega)) fun a ha => ?_)
 subst ha
 have fin : ∀ (e : Int), (e = bif decide (bestN l.fPairs (fun x => x.fState = 1) l.fPairs.length < 0) then bestN l.fPairs (fun x => x.fState = 0 ∧ ¬ runsP l x) l.fPairs.length else bestN l.fPairs (fun x => x.fState = 1) l.fPairs.length) →
   (bif decide (e < 0) then ((0, 4) : Int × Int) else (e, 0)) = (if 0 ≤ bestN l.fPairs (fun x => x.fState = 1) l.fPairs.length then (bestN l.fPairs (fun x => x.fState = 1) l.fPairs.length, 0)
  else if 0 ≤ bestN l.fPairs (fun x => x.fState = 0 ∧ ¬ runsP l x) l.fPairs.length then (bestN l.fPairs (fun x => x.fState = 0 ∧ ¬ runsP l x) l.fPairs.length, 0) else (0, 4)) := fun e he => by
  by_cases h1 : bestN l.fPairs (fun x => x.fState = 1) l.fPairs.length < 0
  ·rw [decide_eq_true h1] at he
   simp only [cond_true] at he
   subst he
   rw [if_neg (by omega)]
   by_cases h2 : bestN l.fPairs (fun x => x.fState = 0 ∧ ¬ runsP l x) l.fPairs.length < 0
   ·rw [decide_eq_true h2, if_neg (by omega)]; rfl
   ·rw [decide_eq_false h2, if_pos (by omega)]; rfl
  ·rw [decide_eq_false h1] at he
   simp only [cond_false] at he
   subst he
   rw [decide_eq_false h1, if_pos (by omega)]; rfl
 refine Ok.bind (R := fun e => e = bif decide (bestN l.fPairs (fun x => x.fState = 1) l.fPairs.length < 0) then bestN l.fPairs (fun x => x.fState = 0 ∧ ¬ runsP l x) l.fPairs.length else bestN l.fPairs (fun x => x.fState = 1) l.fPairs.length) ?_ fun e he => ?_
 ·refine Ok.br (fun h => ?_) (fun h => Ok.done (by rw [h]; rfl))
  rw [h, cond_true]
  refine Ok.opr rfl (Ok.opr rfl ?_)
  refine Ok.bind (R := fun e => e.2 = bestN l.fPairs (fun x => x.fState = 1) l.fPairs.length ∧ ∃ ks, SetOf SEnt104.fk SEnt104.fv e.1 ks ∧ ∀ z, z ∈ ks ↔ ∃ j y, j < l.fPairs.length ∧ l.fPairs[j]? = some y ∧ y.fState = 2 ∧ foundK l y = z) ?_ fun e he => ?_
  ·refine Ok.scan l.fPairs.length (by omega) (fun k y => y.2 = (k : Int) ∧ ∃ ks, SetOf SEnt104.fk SEnt104.fv y.1 ks ∧ ∀ z, z ∈ ks ↔ ∃ j y, j < k ∧ l.fPairs[j]? = some y ∧ y.fState = 2 ∧ foundK l y = z) ⟨rfl, [], SetOf.nil _ _, fun z => ⟨fun h => by simp at h, fun ⟨j, y, h, _⟩ => by omega⟩⟩ (fun k y hy hk => ?_) (fun y hy => ?_)
   ·obtain ⟨hi, ks, hs, hz⟩ := hy
    obtain ⟨y1, y2⟩ := y
    simp only at hi hs
    subst hi
    refine Ok.br (fun hc => ?_) (fun hc => by simp at hc; omega)
    obtain ⟨x, hx1, hx2⟩ := get_lt hk
    refine Ok.chk (by simp; omega) (Ok.row rfl (by rw [Nat.zero_add]; exact hx1) (Ok.br (fun h2 => ?_) (fun h2 => Ok.done ?_)))
    ·rw [beq_iff_eq] at h2
     refine Ok.view (okFOUND l x (hv.2.1 x (List.mem_of_getElem? hx2)).1) fun q hq => Ok.opr rfl (Ok.done ?_)
     subst hq
     refine ⟨wi64_nat hk (by omega), ks ++ [foundK l x], hs.put (x := foundK l x) (fun e => ent104_iff) rfl rfl, fun z => ?_⟩
     rw [List.mem_append, hz]
     constructor
     ·rintro (⟨j, y, h3, h4⟩ | h3)
      ·exact ⟨j, y, by omega, h4⟩
      ·simp only [List.mem_singleton] at h3
       exact ⟨k, x, by omega, hx2, h2, h3.symm⟩
     ·rintro ⟨j, y, h3, h4, h5, h6⟩
      by_cases hjk : j < k
      ·exact .inl ⟨j, y, hjk, h4, h5, h6⟩
      ·have : j = k := by omega
       subst this
       rw [hx2] at h4
       obtain rfl := Option.some.inj h4
       exact .inr (by simp [h6])
    ·rw [beq_eq_false_iff_ne] at h2
     refine ⟨wi64_nat hk (by omega), ks, hs, fun z => ?_⟩
     rw [hz]
     constructor
     ·rintro ⟨j, y, h3, h4⟩; exact ⟨j, y, by omega, h4⟩
     ·rintro ⟨j, y, h3, h4, h5, h6⟩
      refine ⟨j, y, ?_, h4, h5, h6⟩
      have : j ≠ k := fun e => by
       subst e
       rw [hx2] at h4
       obtain rfl := Option.some.inj h4
       exact h2 h5
      omega
   ·obtain ⟨hi, ks, hs, hz⟩ := hy
    obtain ⟨y1, y2⟩ := y
    simp only at hi hs
    subst hi
    exact Ok.br (fun hc => by simp at hc) (fun hc => Ok.done ⟨rfl, ks, hs, hz⟩)
  ·obtain ⟨e1, ks, hs, hz⟩ := he
   refine Ok.call (okBEST2 l.fPairs e.1 l.fControlling l.fLocals l.fRemotes ks hs (fun x hx => (hv.2.1 x hx).1) (by omega)) fun q hq => Ok.done ?_
   rw [hq]
   refine bestN_congr (fun x hx => ?_) _
   refine and_congr Iff.rfl (not_congr ?_)
   show foundK l x ∈ ks ↔ _
   rw [hz]
   constructor
   ·rintro ⟨j, y, h3, h4, h5, h6⟩; exact ⟨y, List.mem_of_getElem? h4, h5, h6⟩
   ·rintro ⟨y, h3, h4, h5⟩
    obtain ⟨j, hj⟩ := List.mem_iff_getElem?.1 h3
    exact ⟨j, y, (List.getElem?_eq_some_iff.1 hj).1, hj, h4, h5⟩
 ·rw [← fin e he]
  refine Ok.br (fun h => Ok.done (by rw [h]; rfl)) (fun h => Ok.done (by rw [h]; rfl))
end Go.Proofs.YtioobnkmohikjaaGreatDoor
namespace Go.Proofs.YtioobnkmohikjaaGreatDoor
open Go Go.EV
set_option maxRecDepth 100000
open Classical
theorem okPLACE (p : Int) : SOk (s59 p) (fun r => r.fHost.size ≤ 16) := by
 show Ok (g59 p) _
 unfold g59
 exact Ok.br (fun _ => Ok.done (by rw [strOfNums_size]; simp only [List.length_cons, List.length_nil]; omega)) (fun _ => Ok.done (by rw [strOfNums_size]; simp only [List.length_cons, List.length_nil]; omega))
theorem okITOA (n : Int) (h : 1 ≤ n ∧ n ≤ 4) : SOk (s80 n) (fun r => r.size ≤ 100) := by
 have h1 : SOk (s103 n) (fun r => r.size ≤ 100) := by
  show Ok (g103 n) _
  unfold g103
  refine Ok.brT (by simp; omega) (Ok.chk ?_ (Ok.done ?_))
  ·rw [wi64_id (by omega) (by omega)]; simp; omega
  ·rw [ByteArray.size_extract, wi64_id (by omega) (by omega)]; omega
 have h2 : SOk (s97 n 10) (fun r => r.size ≤ 100) := by
  show Ok (g97 n 10) _
  unfold g97
  refine Ok.brT rfl (Ok.cnd (R := fun c => c = true) (Ok.brT (by simp; omega) (Ok.done (by simp; omega))) fun c hc => ?_)
  subst hc
  exact Ok.brT rfl (Ok.call h1 fun r hr => Ok.done hr)
 have h3 : SOk (s86 n) (fun r => r.size ≤ 100) := by
  show Ok (g86 n) _
  unfold g86
  exact Ok.call h2 fun r hr => Ok.done hr
 show Ok (g80 n) _
 unfold g80
 exact Ok.call h3 fun r hr => Ok.done hr
theorem okHEX (s : ByteArray) (h : s.size ≤ 100000) : SOk (s81 s) (fun r => r.size ≤ 200000) := by
 show Ok (g81 s) _
 unfold g81
 have e : wi64 ((2 : Int) * (s.size : Int)) = 2 * (s.size : Int) := wi64_id (by omega) (by omega)
 refine Ok.opr (r := ()) (by rw [e]; simp only [Rule.makeD]; rw [show (decide ((0 : Int) ≤ 0) && decide ((0 : Int) ≤ 2 * (s.size : Int)) && decide (1 * (2 * (s.size : Int)).toNat ≤ 281474976710656) && decide (2 * (s.size : Int) ≤ 9223372036854775807)) = true from by simp; omega]; rfl) ?_
 refine Ok.gh (Ok.bind (R := fun l => l.length ≤ 2 * s.size) ?_ fun e he => Ok.opr (r := ()) rfl (Ok.done (by rw [strOfNums_size]; omega)))
 refine Ok.scan s.size (by omega) (fun k y => y.2 = (k : Int) ∧ y.1.length = 2 * k) ⟨rfl, rfl⟩ (fun k y hy hk => ?_) (fun y hy => ?_)
 ·obtain ⟨hi, hs⟩ := hy
  obtain ⟨y1, y2⟩ := y
  simp only at hi hs
  subst hi
  have hb := bAt_lt s (k : Int)
  have hq : (wu8 (Int.tdiv (bAt s (k : Int)) 16)) = bAt s (k : Int) / 16 := by
   rw [Int.tdiv_eq_ediv_of_nonneg hb.1]
   unfold wu8 IntKind.wrap
   simp [IntKind.signed, IntKind.bits]
   omega
  have hm : Int.tmod (bAt s (k : Int)) 16 = bAt s (k : Int) % 16 := Int.tmod_eq_emod_of_nonneg hb.1
  refine Ok.br (fun hc => ?_) (fun hc => by simp at hc; omega)
  refine Ok.chk (by simp; omega) (Ok.chk (by rw [hq]; simp [bs, ByteArray.size]; omega) (Ok.chk (by simp; omega) (Ok.chk (by rw [hm]; simp [bs, ByteArray.size]; omega) (Ok.app ?_ (Ok.gh (Ok.gh (Ok.done ⟨wi64_nat hk (by omega), ?_⟩)))))))
  ·simp [hs]; omega
  ·simp [hs]; omega
 ·obtain ⟨hi, hs⟩ := hy
  obtain ⟨y1, y2⟩ := y
  simp only at hi hs
  subst hi
  exact Ok.br (fun hc => by simp at hc) (fun hc => Ok.done (by show y1.length ≤ _; omega))
theorem okRFOUND (k : Int) (b s : SAddr) (hb : b.fHost.size ≤ 100000) (hs : s.fHost.size ≤ 100000) : SOk (s72 k b s) (fun _ => True) := by
 show Ok (g72 k b s) _
 unfold g72
 refine Ok.cnd (R := fun c => c = false → 1 ≤ k ∧ k ≤ 4) ?_ fun c hc => ?_
 ·refine Ok.br (fun h1 => Ok.done fun h => by simp at h) (fun h1 => Ok.br (fun h2 => Ok.done fun h => by simp at h) (fun h2 => ?_))
  simp only [decide_eq_false_iff_not] at h1 h2
  have hk : 1 ≤ k ∧ k ≤ 4 := ⟨by omega, by omega⟩
  exact Ok.call (okRUSABLE _) fun r hr => Ok.br (fun _ => Ok.done fun _ => hk) (fun _ => Ok.br (fun _ => Ok.call (okRUSABLE _) fun r hr => Ok.done fun _ => hk) (fun _ => Ok.done fun _ => hk))
 ·refine Ok.br (fun _ => Ok.done trivial) (fun h => ?_)
  have hk := hc h
  have h1 : (bs [45]).size = 1 := rfl
  refine Ok.call (okITOA k hk) fun r hr => Ok.chk (by simp only [decide_eq_true_eq]; omega) (Ok.call (okHEX _ hb) fun r2 hr2 => ?_)
  refine Ok.chk (by simp only [decide_eq_true_eq, ByteArray.size_append]; omega) (Ok.chk (by simp only [decide_eq_true_eq, ByteArray.size_append]; omega) (Ok.call (okHEX _ hs) fun r3 hr3 => Ok.chk (by simp only [decide_eq_true_eq, ByteArray.size_append]; omega) (Ok.done trivial)))
theorem okRPRI9 (k p c : Int) : SOk (s73 k p c) (fun _ => True) := by
 show Ok (g73 k p c) _
 unfold g73
 refine Ok.cnd (R := fun c => c = false → 1 ≤ k ∧ k ≤ 4) ?_ fun c hc => ?_
 ·refine Ok.br (fun h1 => Ok.done fun h => by simp at h) (fun h1 => Ok.br (fun h2 => Ok.done fun h => by simp at h) (fun h2 => ?_))
  simp only [decide_eq_false_iff_not] at h1 h2
  have hk : 1 ≤ k ∧ k ≤ 4 := ⟨by omega, by omega⟩
  exact Ok.br (fun _ => Ok.done fun _ => hk) (fun _ => Ok.br (fun _ => Ok.done fun _ => hk) (fun _ => Ok.br (fun _ => Ok.done fun _ => hk) (fun _ => Ok.done fun _ => hk)))
 ·refine Ok.br (fun _ => Ok.done trivial) (fun h => ?_)
  have hk := hc h
  have : k = 1 ∨ k = 2 ∨ k = 3 ∨ k = 4 := by omega
  rcases this with rfl | rfl | rfl | rfl
  all_goals exact Ok.ceq rfl (Ok.br (fun _ => Ok.done trivial) (fun _ => Ok.done trivial))
theorem okRNEW (k : Int) (a b s : SAddr) (p c : Int) (hb : b.fHost.size ≤ 100000) (hs : s.fHost.size ≤ 100000) : SOk (s60 k a b s p c) (fun _ => True) := by
 show Ok (g60 k a b s p c) _
 unfold g60
 refine Ok.call (okRFOUND k b s hb hs) fun r _ => Ok.br (fun _ => Ok.done trivial) (fun _ => Ok.call (okRPRI9 _ _ _) fun r2 _ => Ok.br (fun _ => Ok.done trivial) (fun _ => Ok.call (okRCAND _) fun r3 _ => Ok.br (fun _ => Ok.done trivial) (fun _ => Ok.done trivial)))
theorem okDCAND (d : SDraft) : SOk (s29 d) (fun _ => True) := by
 show Ok (g29 d) _
 unfold g29
 refine Ok.call (okPLACE _) fun a ha => Ok.call (okPLACE _) fun b hb => Ok.cnd (R := fun _ => True) ?_ fun c _ => ?_
 ·exact Ok.br (fun _ => Ok.done trivial) (fun _ => Ok.br (fun _ => Ok.done trivial) (fun _ => Ok.done trivial))
 refine Ok.bind (R := fun e => e.1.size ≤ 16) (Ok.br (fun _ => Ok.done ha) (fun _ => Ok.done hb)) fun e he => ?_
 refine Ok.cnd (R := fun _ => True) (Ok.br (fun _ => Ok.done trivial) (fun _ => Ok.done trivial)) fun c2 _ => ?_
 refine Ok.bind (R := fun e => e.1.size ≤ 16) (Ok.br (fun _ => Ok.call (okPLACE _) fun q hq => Ok.done hq) (fun _ => Ok.done (by show (0 : Nat) ≤ 16; omega))) fun e2 he2 => ?_
 exact Ok.call (okRNEW _ _ _ _ _ _ (by show e.1.size ≤ _; omega) (by show e2.1.size ≤ _; omega)) fun r _ => Ok.done trivial
theorem okRCANDS (l : List SDraft) (n : Nat) (hn : n ≤ 1000) : SOk (s8 l (n : Int)) (fun r => r.length ≤ n) := by
 show Ok (g8 l (n : Int)) _
 unfold g8
 simp only [mlen_eq]
 refine Ok.gh (Ok.bind (R := fun r => r.length ≤ n) ?_ fun e he => Ok.gh (Ok.done he))
 refine Ok.scan n (by omega) (fun k y => y.2 = (k : Int) ∧ y.1.length = k) ⟨rfl, rfl⟩ (fun k y hy hk => ?_) (fun y hy => ?_)
 ·obtain ⟨hi, hs⟩ := hy
  obtain ⟨y1, y2⟩ := y
  simp only at hi hs
  subst hi
  refine Ok.cnd (R := fun c => c = true → k < l.length) (Ok.br (fun h1 => Ok.done fun _ => by simpa using h1) (fun h1 => Ok.done fun h => by simp at h)) fun c hc => Ok.br (fun h => ?_) (fun h => Ok.done (by show y1.length ≤ n; omega))
  obtain ⟨x, hx1, hx2⟩ := get_lt (hc h)
  refine Ok.row (by simp) hx1 (Ok.call (okDCAND x) fun r _ => Ok.app (by simp [hs]; omega) (Ok.gh (Ok.gh (Ok.done ⟨wi64_nat hk (by omega), by simp [hs]⟩))))
 ·obtain ⟨hi, hs⟩ := hy
  obtain ⟨y1, y2⟩ := y
  simp only at hi hs
  subst hi
  refine Ok.cnd (R := fun c => c = false) (Ok.br (fun h1 => Ok.done (by simp)) (fun h1 => Ok.done rfl)) fun c hc => ?_
  subst hc
  exact Ok.brF rfl (Ok.done (by show y1.length ≤ n; omega))
theorem bif_ok {p : Prop} [Decidable p] (h : p) : (bif decide p then some () else none) = some () := by rw [decide_eq_true h]; rfl
end Go.Proofs.YtioobnkmohikjaaGreatDoor
namespace Go.Proofs.YtioobnkmohikjaaGreatDoor
open Go Go.EV
set_option maxRecDepth 100000
structure SEnt90 where
 fk : S2String
 fv : Int
def tySEnt90 : Ty SEnt90 := ⟨fun x => [.str x.fk.a0, .str x.fk.a1, .int .i64 x.fv], fun x => [.str x.fk.a0, .str x.fk.a1, .int .i64 x.fv], fun _ => rfl, fun _ => rfl, fun _ _ => rfl, fun _ => rfl⟩
noncomputable def g56_1 (p0 : Bool) (p1 : (List SCandidate)) (p2 : (List SCandidate)) (p3 : SPair) : TT (Int) :=
 .row 1008 tySCandidate p1 p3.fLocal.toNat (decide (0 ≤ p3.fLocal)) fun x542 =>
 .row 1018 tySCandidate p2 p3.fRemote.toNat (decide (0 ≤ p3.fRemote)) fun x543 =>
 .bind 0
 (.br 0 (!p0)
  (.done (x543.fPriority, x542.fPriority))
  (.done (x542.fPriority, x543.fPriority)))
 (fun (e544 : Int × Int) => Ext.lit .normal [(4, .int .i64 0), (5, .int .i64 e544.1), (6, .int .i64 e544.2)] [])
 (fun e544 =>
  .call 4003 (s71 e544.1 e544.2) [] [] fun r545 =>
  .done r545.1)
theorem k56_1 (p0 : Bool) (p1 : (List SCandidate)) (p2 : (List SCandidate)) (p3 : SPair) : FnD Tryz.prog GG [0, 1, 3, 4, 5, 6, 7, 34] Tryz.f56 [.snap [.bool p0, .sl false 8 (List.map tySCandidate.c p1), .sl false 8 (List.map tySCandidate.c p2), .nilsl], .agg [.int .i64 p3.fLocal, .int .i64 p3.fRemote, .int .i64 p3.fPriority, .int .i64 p3.fState]] (g56_1 p0 p1 p2 p3) (fun r => .int .i64 r) := by unfold FnD; kernel_rfl
noncomputable def s56_1 (p0 : Bool) (p1 : (List SCandidate)) (p2 : (List SCandidate)) (p3 : SPair) : EV.Spec Tryz.prog GG (Int) := .ofFn 56 mixed Tryz.func56 (k56_1 p0 p1 p2 p3)
noncomputable def g34 (p0 : SPair) (p1 : SPair) : TT (Int) :=
 .call 1005 (s35 p1.fPriority p0.fPriority) [] [] fun r551 =>
 .done r551
theorem k34 (p0 : SPair) (p1 : SPair) : FnD Tryz.prog GG [0, 1, 2, 3, 4] Tryz.f34 [.agg [.int .i64 p0.fLocal, .int .i64 p0.fRemote, .int .i64 p0.fPriority, .int .i64 p0.fState], .agg [.int .i64 p1.fLocal, .int .i64 p1.fRemote, .int .i64 p1.fPriority, .int .i64 p1.fState]] (g34 p0 p1) (fun r => .int .i64 r) := by unfold FnD; kernel_rfl
noncomputable def s34 (p0 : SPair) (p1 : SPair) : EV.Spec Tryz.prog GG (Int) := .ofFn 34 mixed Tryz.func34 (k34 p0 p1)
noncomputable def g76 (p0 : Nat) (p1 : Int) (p2 : Int) (p3 : (List SPair)) : TT ((List SPair)) :=
 .bind 1
 (.lp (fun (l587 : (List SPair) × Int) => Ext.of .normal [(0, .ref 1000000 0 p0), (1, .int .i64 p1), (2, .int .i64 p2), (3, .fn 34 [] []), (8, .int .i64 l587.2)] [] [BT.of 1000000 tySPair 4 l587.1 true] (by rfl))
  (fun l587 =>
   .br 0 (decide (l587.2 < p2))
   (.bind 2
    (.lp (fun (l597 : (List SPair) × Int) => Ext.of .normal [(0, .ref 1000000 0 p0), (1, .int .i64 p1), (2, .int .i64 p2), (3, .fn 34 [] []), (8, .int .i64 l587.2), (9, .int .i64 l597.2)] [] [BT.of 1000000 tySPair 4 l597.1 true] (by rfl))
     (fun l597 =>
      .cnd 4 [34]
      (.br 4005 (decide (p1 < l597.2))
       (.chk 4008 (decide (0 ≤ l597.2) && decide (l597.2 < (p0 : Int))) (.row 4009 tySPair l597.1 (0 + l597.2.toNat) true fun x598 =>
        .chk 4013 (decide (0 ≤ (wi64 (l597.2 - 1))) && decide ((wi64 (l597.2 - 1)) < (p0 : Int))) (.row 4014 tySPair l597.1 (0 + (wi64 (l597.2 - 1)).toNat) true fun x599 =>
        .call 4015 (s34 x598 x599) [] [] fun r600 =>
        .done (decide (r600 < 0)))))
       (.done false))
      (fun (c601 : Bool) => [.bool c601]) fun c601 =>
      .br 0 c601
      (.chk 6009 (decide (0 ≤ (wi64 (l597.2 - 1))) && decide ((wi64 (l597.2 - 1)) < (p0 : Int))) (.row 6010 tySPair l597.1 (0 + (wi64 (l597.2 - 1)).toNat) true fun x602 =>
       .chk 6013 (decide (0 ≤ l597.2) && decide (l597.2 < (p0 : Int))) (.row 6014 tySPair l597.1 (0 + l597.2.toNat) true fun x603 =>
       .chk 6015 (decide (0 ≤ l597.2) && decide (l597.2 < (p0 : Int))) (.row 6016 tySPair l597.1 (0 + l597.2.toNat) true fun x604 =>
       .re 6016 (ReW.put 1000000 4 tySPair l597.1 (0 + l597.2.toNat) x602) (.chk 6017 (decide (0 ≤ (wi64 (l597.2 - 1))) && decide ((wi64 (l597.2 - 1)) < (p0 : Int))) (.row 6018 tySPair (l597.1.set (0 + l597.2.toNat) x602) (0 + (wi64 (l597.2 - 1)).toNat) true fun x605 =>
       .re 6018 (ReW.put 1000000 4 tySPair (l597.1.set (0 + l597.2.toNat) x602) (0 + (wi64 (l597.2 - 1)).toNat) x603) (.done (.inl (((l597.1.set (0 + l597.2.toNat) x602).set (0 + (wi64 (l597.2 - 1)).toNat) x603), (wi64 (l597.2 - 1)))))))))))
      (.done (.inr l597.1)))
     (l587.1, l587.2))
    (fun (e606 : (List SPair)) => Ext.of (.exit 2) [(0, .ref 1000000 0 p0), (1, .int .i64 p1), (2, .int .i64 p2), (3, .fn 34 [] []), (8, .int .i64 l587.2)] [] [BT.of 1000000 tySPair 4 e606 true] (by rfl))
    (fun e606 =>
     .done (.inl (e606, (wi64 (l587.2 + 1))))))
   (.done (.inr l587.1)))
  (p3, (wi64 (p1 + 1))))
 (fun (e607 : (List SPair)) => Ext.of (.exit 0) [] [] [BT.of 1000000 tySPair 4 e607 true] (by rfl))
 (fun e607 =>
  .done e607)
theorem k76 (p0 : Nat) (p1 : Int) (p2 : Int) (p3 : (List SPair)) : FnB Tryz.prog GG [0, 1, 2, 3, 8, 9, 14, 34] Tryz.f76 [.ref 1000000 0 p0, .int .i64 p1, .int .i64 p2, .fn 34 [] []] (Ext.of .normal (argTs [.ref 1000000 0 p0, .int .i64 p1, .int .i64 p2, .fn 34 [] []]) [] [BT.of 1000000 tySPair 4 p3 true] (by rfl)) (g76 p0 p1 p2 p3) (fun (_ : (List SPair)) => .tup []) (fun (r : (List SPair)) => Ext.of .normal [] [] [BT.of 1000000 tySPair 4 r true] (by rfl)) := by unfold FnB; kernel_rfl
noncomputable def s76 (p0 : Nat) (p1 : Int) (p2 : Int) (p3 : (List SPair)) : EV.Spec Tryz.prog GG ((List SPair)) := .ofFnB 76 [1000000] mixed Tryz.func76 rfl (fun _ => rfl) (k76 p0 p1 p2 p3)
noncomputable def g65 (p0 : Nat) (p1 : Int) (p2 : (List SPair)) : TT ((List SPair)) :=
 .bind 1
 (.lp (fun (l568 : (List SPair) × Int × Int) => Ext.of .normal [(0, .ref 1000000 0 p0), (1, .int .i64 p1), (2, .fn 34 [] []), (6, .int .i64 20), (7, .int .i64 l568.2.1), (8, .int .i64 l568.2.2)] [] [BT.of 1000000 tySPair 4 l568.1 true] (by rfl))
  (fun l568 =>
   .br 0 (decide (l568.2.2 ≤ p1))
   (.call 3005 (s76 p0 l568.2.1 l568.2.2 l568.1) [(1000000, 1000000)] [] fun r578 =>
    .done (.inl (r578, l568.2.2, (wi64 (l568.2.2 + 20)))))
   (.done (.inr (l568.1, l568.2.1))))
  (p2, 0, 20))
 (fun (e579 : (List SPair) × Int) => Ext.of (.exit 0) [(0, .ref 1000000 0 p0), (1, .int .i64 p1), (2, .fn 34 [] []), (6, .int .i64 20), (7, .int .i64 e579.2)] [] [BT.of 1000000 tySPair 4 e579.1 true] (by rfl))
 (fun e579 =>
  .call 6005 (s76 p0 e579.2 p1 e579.1) [(1000000, 1000000)] [] fun r589 =>
  .bind 1
  (.lp (fun (l593 : Int) => Ext.of .normal [(0, .ref 1000000 0 p0), (1, .int .i64 p1), (2, .fn 34 [] []), (6, .int .i64 l593)] [] [BT.of 1000000 tySPair 4 r589 true] (by rfl))
   (fun l593 =>
    .br 0 (decide (l593 < p1))
    (.bind 2
     (.lp (fun (l594 : Unit) => Ext.of .normal [(0, .ref 1000000 0 p0), (1, .int .i64 p1), (2, .fn 34 [] []), (6, .int .i64 l593), (7, .int .i64 0), (8, .int .i64 (wi64 ((2 : Int) * l593)))] [] [BT.of 1000000 tySPair 4 r589 true] (by rfl))
      (fun l594 =>
       .br 0 (decide ((wi64 ((2 : Int) * l593)) ≤ p1))
       (.fail)
       (.done (.inr ())))
      ())
     (fun (e595 : Unit) => Ext.of (.exit 4) [(0, .ref 1000000 0 p0), (1, .int .i64 p1), (2, .fn 34 [] []), (6, .int .i64 l593), (7, .int .i64 0)] [] [BT.of 1000000 tySPair 4 r589 true] (by rfl))
     (fun e595 =>
      .br 0 (decide ((wi64 ((0 : Int) + l593)) < p1))
      (.fail)
      (.done (.inl (wi64 (l593 * 2))))))
    (.done (.inr ())))
   20)
  (fun (e596 : Unit) => Ext.of (.exit 2) [] [] [BT.of 1000000 tySPair 4 r589 true] (by rfl))
  (fun e596 =>
   .done r589))
theorem k65 (p0 : Nat) (p1 : Int) (p2 : (List SPair)) : FnB Tryz.prog GG [0, 1, 2, 6, 7, 8, 9, 13, 30, 35, 54] Tryz.f65 [.ref 1000000 0 p0, .int .i64 p1, .fn 34 [] []] (Ext.of .normal (argTs [.ref 1000000 0 p0, .int .i64 p1, .fn 34 [] []]) [] [BT.of 1000000 tySPair 4 p2 true] (by rfl)) (g65 p0 p1 p2) (fun (_ : (List SPair)) => .tup []) (fun (r : (List SPair)) => Ext.of .normal [] [] [BT.of 1000000 tySPair 4 r true] (by rfl)) := by unfold FnB; kernel_rfl
noncomputable def s65 (p0 : Nat) (p1 : Int) (p2 : (List SPair)) : EV.Spec Tryz.prog GG ((List SPair)) := .ofFnB 65 [1000000] mixed Tryz.func65 rfl (fun _ => rfl) (k65 p0 p1 p2)
noncomputable def g33 (p0 : Nat) (p1 : (List SPair)) : TT ((List SPair)) :=
 .call 5 (s65 p0 (p0 : Int) p1) [(1000000, 1000000)] [] fun r597 =>
 .done r597
theorem k33 (p0 : Nat) (p1 : (List SPair)) : FnB Tryz.prog GG [0, 1] Tryz.f33 [.ref 1000000 0 p0, .fn 34 [] []] (Ext.of .normal (argTs [.ref 1000000 0 p0, .fn 34 [] []]) [] [BT.of 1000000 tySPair 4 p1 true] (by rfl)) (g33 p0 p1) (fun (_ : (List SPair)) => .tup []) (fun (r : (List SPair)) => Ext.of .normal [] [] [BT.of 1000000 tySPair 4 r true] (by rfl)) := by unfold FnB; kernel_rfl
noncomputable def s33 (p0 : Nat) (p1 : (List SPair)) : EV.Spec Tryz.prog GG ((List SPair)) := .ofFnB 33 [1000000] mixed Tryz.func33 rfl (fun _ => rfl) (k33 p0 p1)
end Go.Proofs.YtioobnkmohikjaaGreatDoor
namespace Go.Proofs.YtioobnkmohikjaaGreatDoor
open Go Go.EV
set_option maxRecDepth 100000
def paC (x : SPair) : List V := [.int .i64 x.fLocal, .int .i64 x.fRemote, .int .i64 x.fPriority, .int .i64 x.fState]
def caC (x : SCandidate) : List V := [.int .i64 x.fKind, .int .i64 x.fComponent, .int .i64 x.fPriority, .str x.fFoundation, .str x.fAddr.fHost, .int .i64 x.fAddr.fPort, .str x.fBase.fHost, .int .i64 x.fBase.fPort]
def paO (out : List SPair) : V := .ref 1900070 0 out.length
def paTs : List (Nat × V) := [(6, .ptr 1000006 0 0), (7, .int .i64 0), (8, .ptr 1700061 0 0), (9, .ptr 1000009 0 0), (49, .fn 32 [.ptr 1700061 0 0] [])]
def paL (c : Bool) (ls rs : List SCandidate) (o : V) : List (Nat × Blk) :=
 [(1000006, ⟨4, true, [[.bool false, .nilsl, .nilsl, .nilsl]]⟩), (1000009, ⟨1, true, [[o]]⟩), (1700061, ⟨4, true, [[.bool c, .ref 1700062 0 ls.length, .ref 1700063 0 rs.length, .nilsl]]⟩)]
def paT (ls rs : List SCandidate) (out : List SPair) : List BT := [BT.of 1900070 tySPair 4 out true, BT.of 1700062 tySCandidate 8 ls true, BT.of 1700063 tySCandidate 8 rs true]
def paX (ts : List (Nat × V)) (c : Bool) (ls rs : List SCandidate) (out : List SPair) : Ext := Ext.of .normal ts (paL c ls rs (paO out)) (paT ls rs out) (by rfl)
def paB (c : Bool) (ls rs : List SCandidate) (out : List SPair) : List (Nat × Blk) := (paX [] c ls rs out).bs
theorem gst_to {st : St} (x : Ext) {n : Nat} (hok : x.ok = true) (hn : st.n = n) (h : extTs x st = x.ts ∧ extBs x st = x.bs.map fun p => (p.1, some p.2)) : Gst GG st (x.D n).st := by
 subst hn; exact ext_ghost hok h.1 h.2
def cRn : Code → Code
 | .seq _ (.scope (.seq _ (.seq _ (.seq _ (.seq _ (.seq (.seq _ (.block _ c)) _)))))) => c
 | _ => .skip
noncomputable def paR : Code := cRn (Tryz.f11.body.getD .skip)
noncomputable def paAs : Code := rAssign paR
noncomputable def paBd : Code := rBody paR
section
variable (c : Bool) (ls rs : List SCandidate) (out : List SPair)
def xRa (x : SPair) : Ext := paX ((50, .agg (paC x)) :: paTs) c ls rs out
def xRb (x : SPair) : Ext := Ext.of .normal (paTs ++ [(10, .ptr 10 0 0)]) ((10, ⟨4, true, [paC x]⟩) :: paL c ls rs (paO out)) (paT ls rs out) (by rfl)
def xRd (x : SPair) : Ext := Ext.of .normal [] (paL c ls rs (.ref 54 0 (out ++ [x]).length)) [BT.of 54 tySPair 4 (out ++ [x]) true, BT.of 1700062 tySCandidate 8 ls true, BT.of 1700063 tySCandidate 8 rs true] (by rfl)
theorem kRa (x : SPair) : Piece Tryz.prog GG [6, 7, 8, 9, 10, 49] 154 paAs (xRa c ls rs out x) (.done () : TT Unit) (fun _ => xRb c ls rs out x) := by unfold Piece; kernel_rfl
def gRd (x : SPair) : TT Unit := .app 9004 tySPair out [x] 32 false (by intro h; cases h) (.done ())
theorem kRd (x : SPair) : Piece Tryz.prog GG [54] 154 paBd (xRb c ls rs out x) (gRd out x) (fun _ => xRd c ls rs out x) := by unfold Piece; kernel_rfl
end
theorem mob9 {c : Bool} {ls rs : List SCandidate} {out : List SPair} {x : SPair} {g : St} (h : Gst GG g ((xRd c ls rs out x).D 154).st) : Gst GG g (susp 154 (fun _ => .undef) (ofL (paB c ls rs (out ++ [x])))) :=
 Gst.trans h (Gst.mob (lits := paL c ls rs (.ref 54 0 (out ++ [x]).length)) (rest := [(1700062, (BT.of 1700062 tySCandidate 8 ls true).k), (1700063, (BT.of 1700063 tySCandidate 8 rs true).k)]) (kd := (BT.of 54 tySPair 4 (out ++ [x]) true).k) (d := 54) (m := 1900070) (n := 154)
  (by decide) (by decide) (by decide) (by decide : ([1000006, 1000009, 1700061, 54, 1700062, 1700063] : List Nat).Nodup) (tySPair.data _) (by
   intro p hp
   simp only [List.mem_cons, List.not_mem_nil, or_false] at hp
   rcases hp with rfl | rfl
   ·exact tySCandidate.data ls
   ·exact tySCandidate.data rs) (by rfl) (by rfl))
theorem roundMake (c : Bool) (ls rs : List SCandidate) (out : List SPair) (x : SPair) (hb : (gRd out x).run = some ()) :
  RoundT Tryz.prog GG 154 (tOf paTs) [50] paAs paBd (ofL (paB c ls rs out)) [.agg (paC x)] (fun e b' => e = .normal ∧ b' = ofL (paB c ls rs (out ++ [x]))) := by
 refine ⟨((xRb c ls rs out x).D 154).st, ?_, ?_⟩
 ·have h := (kRa c ls rs out x).tv mixed (r := ()) rfl (by rfl)
  have e : ((xRa c ls rs out x).D 154).st = setP (susp 154 (tOf paTs) (ofL (paB c ls rs out))) ([50].zip [.agg (paC x)]) := by
   rw [ext_susp (by rfl)]
   exact (setP_susp 154 paTs _ 50 (.agg (paC x))).symm
  rw [e] at h
  exact h
 ·refine ((kRd c ls rs out x).tv mixed hb (by rfl)).mono fun e s' hg => ?_
  obtain ⟨rfl, g⟩ := hg
  exact ⟨_, 154, ⟨rfl, rfl⟩, mob9 g⟩
def paArgs (l : Nat) : List V := [.ptr 1700061 0 0, .yld l]
noncomputable def cIt : Code := Tryz.f32.body.getD .skip
noncomputable def iR0 : Code := cL cIt
noncomputable def cOut : Code := cB (cB (cR cIt))
noncomputable def iR1 : Code := cL cOut
noncomputable def cO2 : Code := cB (cL (cR (cR cOut)))
noncomputable def iR2 : Code := cL cO2
noncomputable def iR3 : Code := cL (cR cO2)
noncomputable def cIn : Code := cB (cB (cR (cR cO2)))
noncomputable def iR10 : Code := cR (cR (cR cOut))
noncomputable def iR4 : Code := cL cIn
noncomputable def cI2 : Code := cB (cL (cR (cR cIn)))
noncomputable def iR5 : Code := cL cI2
noncomputable def iR6 : Code := cL (cR cI2)
noncomputable def iR7 : Code := cL (cR (cR cI2))
noncomputable def ops8 : Array Oper := rOps (cL (cR (cR (cR cI2))))
noncomputable def iR9 : Code := cR (cR (cR cIn))
theorem eIt : cIt = .seq iR0 (.block 0 (.loop cOut)) := by kernel_rfl
theorem eOut : cOut = .seq iR1 (.seq (.cond (.tmp 16) .skip (.exit 0)) (.seq (.block 1 (.seq iR2 (.seq iR3 (.block 2 (.loop cIn))))) iR10)) := by kernel_rfl
theorem eIn : cIn = .seq iR4 (.seq (.cond (.tmp 27) .skip (.exit 2)) (.seq (.block 3 (.seq iR5 (.seq iR6 (.seq iR7 (.seq (.region 8 ops8 false) (.cond (.tmp 46) .ret .skip)))))) iR9)) := by kernel_rfl
section
variable (l : Nat) (c : Bool) (ls rs : List SCandidate)
def tA (i : Int) : List (Nat × V) := [(0, .ptr 1700061 0 0), (1, .yld l), (13, .ref 1700062 0 ls.length), (14, .int .i64 (ls.length : Int)), (15, .int .i64 i)]
def tB (i : Int) (a : SCandidate) : List (Nat × V) := tA l ls i ++ [(4, .int .i64 i), (5, .snap (caC a))]
def tC (i k : Int) (a : SCandidate) : List (Nat × V) := tB l ls i a ++ [(24, .ref 1700063 0 rs.length), (25, .int .i64 (rs.length : Int)), (26, .int .i64 k)]
def tD (i k : Int) (a : SCandidate) : List (Nat × V) := tC l ls rs i k a ++ [(6, .int .i64 k), (7, .ptr 7 0 0)]
def tE (i k : Int) (a : SCandidate) : List (Nat × V) := tD l ls rs i k a ++ [(8, .ptr 8 0 0)]
def xI (out : List SPair) : Ext := paX (argTs (paArgs l)) c ls rs out
def xA (i : Int) (out : List SPair) : Ext := paX (tA l ls i) c ls rs out
def xA1 (i : Int) (out : List SPair) : Ext := paX (tA l ls i ++ [(16, .bool (decide (i < (ls.length : Int))))]) c ls rs out
def xB0 (i : Int) (a : SCandidate) (out : List SPair) : Ext := Ext.of .normal (tA l ls i ++ [(4, .int .i64 i), (5, .ptr 5 0 0)]) ((5, ⟨8, true, [caC a]⟩) :: paL c ls rs (paO out)) (paT ls rs out) (by rfl)
def xB (i : Int) (a : SCandidate) (out : List SPair) : Ext := paX (tB l ls i a) c ls rs out
def xC (i k : Int) (a : SCandidate) (out : List SPair) : Ext := paX (tC l ls rs i k a) c ls rs out
def xC1 (i k : Int) (a : SCandidate) (out : List SPair) : Ext := paX (tC l ls rs i k a ++ [(27, .bool (decide (k < (rs.length : Int))))]) c ls rs out
def xD (i k : Int) (a b : SCandidate) (out : List SPair) : Ext := Ext.of .normal (tD l ls rs i k a) ((7, ⟨8, true, [caC b]⟩) :: paL c ls rs (paO out)) (paT ls rs out) (by rfl)
def xE (i k p : Int) (a b : SCandidate) (out : List SPair) : Ext := Ext.of .normal (tE l ls rs i k a) ((7, ⟨8, true, [caC b]⟩) :: (8, ⟨4, true, [paC ⟨i, k, p, 0⟩]⟩) :: paL c ls rs (paO out)) (paT ls rs out) (by rfl)
def tF (i k p : Int) (f : Bool) : List (Nat × V) := bif f then [(41, .bool true), (42, .yld l), (43, .agg (paC ⟨i, k, p, 0⟩))] else [(41, .bool false), (42, .tup []), (43, .tup [])]
def xF (i k p : Int) (a b : SCandidate) (out : List SPair) (f : Bool) : Ext := Ext.of .normal (tE l ls rs i k a ++ tF l i k p f) ((7, ⟨8, true, [caC b]⟩) :: (8, ⟨4, true, [paC ⟨i, k, p, 0⟩]⟩) :: paL c ls rs (paO out)) (paT ls rs out) (by rfl)
def xG (i k p : Int) (a : SCandidate) (out : List SPair) (f : Bool) : Ext := paX (tC l ls rs i k a ++ tF l i k p f) c ls rs out
theorem kR0 (out : List SPair) : Piece Tryz.prog GG [0, 1, 13, 14, 15] 49 iR0 (xI l c ls rs out) (.done () : TT Unit) (fun _ => xA l c ls rs 0 out) := by unfold Piece; kernel_rfl
theorem kR1 (i : Int) (out : List SPair) : Piece Tryz.prog GG [0, 1, 13, 14, 15, 16] 49 iR1 (xA l c ls rs i out) (.done () : TT Unit) (fun _ => xA1 l c ls rs i out) := by unfold Piece; kernel_rfl
def gR2 (i : Int) : TT SCandidate := .chk 2002 (decide (0 ≤ i) && decide (i < (ls.length : Int))) (.row 2003 tySCandidate ls (0 + i.toNat) true fun x => .done x)
theorem kR2 (i : Int) (out : List SPair) : Piece Tryz.prog GG [0, 1, 4, 5, 13, 14, 15] 49 iR2 (xA l c ls rs i out) (gR2 ls i) (fun a => xB0 l c ls rs i a out) := by unfold Piece; kernel_rfl
theorem kR3 (i : Int) (a : SCandidate) (out : List SPair) : Piece Tryz.prog GG [0, 1, 4, 5, 13, 14, 15, 24, 25, 26] 49 iR3 (xB l c ls rs i a out) (.done () : TT Unit) (fun _ => xC l c ls rs i 0 a out) := by unfold Piece; kernel_rfl
theorem kR4 (i k : Int) (a : SCandidate) (out : List SPair) : Piece Tryz.prog GG [0, 1, 4, 5, 13, 14, 15, 24, 25, 26, 27] 49 iR4 (xC l c ls rs i k a out) (.done () : TT Unit) (fun _ => xC1 l c ls rs i k a out) := by unfold Piece; kernel_rfl
def gR5 (k : Int) : TT SCandidate := .chk 5002 (decide (0 ≤ k) && decide (k < (rs.length : Int))) (.row 5003 tySCandidate rs (0 + k.toNat) true fun x => .done x)
theorem kR5 (i k : Int) (a : SCandidate) (out : List SPair) : Piece Tryz.prog GG [0, 1, 4, 5, 6, 7, 13, 14, 15, 24, 25, 26] 49 iR5 (xC l c ls rs i k a out) (gR5 rs k) (fun b => xD l c ls rs i k a b out) := by unfold Piece; kernel_rfl
theorem kR6 (i k : Int) (a b : SCandidate) (out : List SPair) : Piece Tryz.prog GG [0, 1, 4, 5, 6, 7, 8, 13, 14, 15, 24, 25, 26] 49 iR6 (xD l c ls rs i k a b out) (.done () : TT Unit) (fun _ => xE l c ls rs i k 0 a b out) := by unfold Piece; kernel_rfl
noncomputable def gR7 (i k : Int) : TT Int := .view 7003 (s56_1 c ls rs (SPair.mk i k 0 0)) [(VwW.of 1700062 tySCandidate ls), (VwW.of 1700063 tySCandidate rs)] fun r => .done r
theorem kR7 (i k : Int) (a b : SCandidate) (out : List SPair) : Piece Tryz.prog GG [0, 1, 4, 5, 6, 7, 8, 13, 14, 15, 24, 25, 26] 49 iR7 (xE l c ls rs i k 0 a b out) (gR7 c ls rs i k) (fun p => xE l c ls rs i k p a b out) := by unfold Piece; kernel_rfl
noncomputable def gR8 (a b : SCandidate) : TT Bool := .call 8003 (s64 a b) [] [] fun r => .br 8005 r (.done true) (.done false)
theorem kR8 (i k p : Int) (a b : SCandidate) (out : List SPair) : PieceOps Tryz.prog GG [0, 1, 4, 5, 6, 7, 8, 13, 14, 15, 24, 25, 26, 41, 42, 43] 49 8 ops8 6 (xE l c ls rs i k p a b out) (gR8 a b) (xF l c ls rs i k p a b out) := by unfold PieceOps; kernel_rfl
theorem kR9 (i k : Int) (a : SCandidate) (out : List SPair) : Piece Tryz.prog GG [0, 1, 4, 5, 13, 14, 15, 24, 25, 26] 49 iR9 (xC l c ls rs i k a out) (.done () : TT Unit) (fun _ => xC l c ls rs i (wi64 (k + 1)) a out) := by unfold Piece; kernel_rfl
theorem kR10 (i : Int) (out : List SPair) : Piece Tryz.prog GG [0, 1, 13, 14, 15] 49 iR10 (xA l c ls rs i out) (.done () : TT Unit) (fun _ => xA l c ls rs (wi64 (i + 1)) out) := by unfold Piece; kernel_rfl
end
noncomputable def inStep (c : Bool) (ls rs : List SCandidate) (i : Int) (a : SCandidate) (s : Int × List SPair) : Option ((Int × List SPair) ⊕ List SPair) :=
 bif decide (s.1 < (rs.length : Int)) then
  (match (gR5 rs s.1).run with
  | none => none
  | some b => match (gR7 c ls rs i s.1).run with
   | none => none
   | some p => match (gR8 a b).run with
    | none => none
    | some f => bif f then (match (gRd s.2 ⟨i, s.1, p, 0⟩).run with
      | none => none
      | some _ => some (.inl (wi64 (s.1 + 1), s.2 ++ [⟨i, s.1, p, 0⟩])))
     else some (.inl (wi64 (s.1 + 1), s.2)))
 else some (.inr s.2)
noncomputable def inM (c : Bool) (ls rs : List SCandidate) (i : Int) (a : SCandidate) (out : List SPair) : Option (List SPair) := iter (inStep c ls rs i a) FUEL (0, out)
noncomputable def outStep (c : Bool) (ls rs : List SCandidate) (s : Int × List SPair) : Option ((Int × List SPair) ⊕ List SPair) :=
 bif decide (s.1 < (ls.length : Int)) then
  (match (gR2 ls s.1).run with
  | none => none
  | some a => match inM c ls rs s.1 a s.2 with
   | none => none
   | some out => some (.inl (wi64 (s.1 + 1), out)))
 else some (.inr s.2)
noncomputable def pairsM (c : Bool) (ls rs : List SCandidate) : Option (List SPair) := iter (outStep c ls rs) FUEL (0, [])
noncomputable def paYL : YL := ⟨154, tOf paTs, #[50], paAs, paBd⟩
theorem inner (l : Nat) (c : Bool) (ls rs : List SCandidate) (i : Int) (a : SCandidate) (out : List SPair) {r : List SPair} (h : inM c ls rs i a out = some r) {Q : Exit → YS → Prop}
    (hq : ∀ st, Gst GG st ((xA l c ls rs i r).D 49).st → Q .normal ⟨.normal, st⟩) :
    YT Tryz.prog GG paYL l (.block 2 (.loop cIn)) ⟨.normal, ((xC l c ls rs i 0 a out).D 49).st⟩ Q := by
  refine YT.block ?_
  refine YT.loop (fun m s => s.x = .normal ∧ ∃ y : Int × List SPair, Gst GG s.st ((xC l c ls rs i y.1 a y.2).D 49).st ∧ iter (inStep c ls rs i a) m y = some r) (fun m s hI => ?_) (n := FUEL) ⟨rfl, (0, out), Gst.same _, h⟩
  obtain ⟨x, st⟩ := s
  obtain ⟨rfl, ⟨k, o⟩, g, hit⟩ := hI
  refine YT.gst g ?_
  cases m with
  | zero => simp [iter] at hit
  | succ m =>
    rw [iter_succ] at hit
    rw [eIn]
    refine YT.seq (YT.piece (kR4 l c ls rs i k a o) mixed rfl (by rfl) fun s g => ?_)
    show YT _ _ _ _ _ _ _
    refine YT.gst g ?_
    cases hc : decide (k < (rs.length : Int)) with
    | false =>
      have hs0 : inStep c ls rs i a (k, o) = some (.inr o) := by unfold inStep; simp only [hc]; rfl
      rw [hs0] at hit
      obtain rfl : o = r := Option.some.inj hit
      refine YT.seq (YT.cond (b := false) (by show some (V.bool (decide (k < (rs.length : Int)))) = _; rw [hc]) (YT.exit ?_))
      show Q .normal _
      exact hq _ (gst_to (xA l c ls rs i o) (by rfl) rfl ⟨by rfl, by rfl⟩)
    | true =>
      refine YT.seq (YT.cond (b := true) (by show some (V.bool (decide (k < (rs.length : Int)))) = _; rw [hc]) (YT.skip ?_))
      show YT _ _ _ _ _ _ _
      refine YT.gst (st' := ((xC l c ls rs i k a o).D 49).st) (gst_to (xC l c ls rs i k a o) (by rfl) rfl ⟨by rfl, by rfl⟩) ?_
      cases h5 : (gR5 rs k).run with
      | none => have hs0 : inStep c ls rs i a (k, o) = none := by unfold inStep; simp only [hc, h5]; rfl
                rw [hs0] at hit; simp at hit
      | some b =>
      cases h7 : (gR7 c ls rs i k).run with
      | none => have hs0 : inStep c ls rs i a (k, o) = none := by unfold inStep; simp only [hc, h5, h7]; rfl
                rw [hs0] at hit; simp at hit
      | some p =>
      cases h8 : (gR8 a b).run with
      | none => have hs0 : inStep c ls rs i a (k, o) = none := by unfold inStep; simp only [hc, h5, h7, h8]; rfl
                rw [hs0] at hit; simp at hit
      | some f =>
      have next : ∀ (o2 : List SPair) (st : St), iter (inStep c ls rs i a) m (wi64 (k + 1), o2) = some r → Gst GG st ((xC l c ls rs i k a o2).D 49).st →
          YT Tryz.prog GG paYL l iR9 ⟨.normal, st⟩ (thenY (fun s' => ∃ m', m' < m + 1 ∧ s'.x = .normal ∧ ∃ y : Int × List SPair, Gst GG s'.st ((xC l c ls rs i y.1 a y.2).D 49).st ∧ iter (inStep c ls rs i a) m' y = some r) (inBlockY 2 Q)) := fun o2 st h2 g2 => by
        refine YT.gst g2 ?_
        refine YT.piece (kR9 l c ls rs i k a o2) mixed rfl (by rfl) fun s g => ?_
        exact ⟨m, Nat.lt_succ_self m, rfl, (wi64 (k + 1), o2), g, h2⟩
      refine YT.seq (YT.block (YT.seq (YT.piece (kR5 l c ls rs i k a o) mixed h5 (by rfl) fun s g => ?_)))
      show YT _ _ _ _ _ _ _
      refine YT.gst g ?_
      refine YT.seq (YT.piece (kR6 l c ls rs i k a b o) mixed rfl (by rfl) fun s g => ?_)
      show YT _ _ _ _ _ _ _
      refine YT.gst g ?_
      refine YT.seq (YT.piece (kR7 l c ls rs i k a b o) mixed h7 (by rfl) fun s g => ?_)
      show YT _ _ _ _ _ _ _
      refine YT.gst g ?_
      refine YT.seq (YT.region ?_)
      show YTops _ _ _ _ _ ([0, 1, 2, 3, 4, 5] ++ [6, 7, 8]) _ _
      refine YTops.tv ((kR8 l c ls rs i k p a b o).tv mixed h8 (by cases f <;> rfl)) fun e st hq' => ⟨by rw [hq'.1]; cases f <;> rfl, YTops.gst hq'.2 ?_⟩
      refine YTops.gst (st' := ((xG l c ls rs i k p a o f).D 49).st) (by cases f <;> exact gst_to _ (by rfl) rfl ⟨by rfl, by rfl⟩) ?_
      cases f with
      | false =>
        have hs0 : inStep c ls rs i a (k, o) = some (.inl (wi64 (k + 1), o)) := by unfold inStep; simp only [hc, h5, h7, h8]; rfl
        rw [hs0] at hit
        refine YTops.step rfl (YTops.step rfl (YTops.step rfl (YTops.nil ?_)))
        show YT _ _ _ _ _ _ _
        refine YT.cond (b := false) rfl (YT.skip ?_)
        show YT _ _ _ _ _ _ _
        exact next o _ hit (gst_to (xC l c ls rs i k a o) (by rfl) rfl ⟨by rfl, by rfl⟩)
      | true =>
        cases hd : (gRd o ⟨i, k, p, 0⟩).run with
        | none => have hs0 : inStep c ls rs i a (k, o) = none := by unfold inStep; simp only [hc, h5, h7, h8, hd]; rfl
                  rw [hs0] at hit; simp at hit
        | some u =>
        have hs0 : inStep c ls rs i a (k, o) = some (.inl (wi64 (k + 1), o ++ [⟨i, k, p, 0⟩])) := by unfold inStep; simp only [hc, h5, h7, h8, hd]; rfl
        rw [hs0] at hit
        rw [ext_susp (x := xG l c ls rs i k p a o true) (by rfl) 49]
        refine YTops.yieldG (hi := rfl) rfl rfl rfl rfl rfl rfl rfl ?_ ?_ ?_ rfl (roundMake c ls rs o ⟨i, k, p, 0⟩ hd) ?_ ?_
        · exact fun i => tOf_ok (by rfl) i
        · exact fun i => tOf_ok (by rfl) i
        · intro p hp
          have : p ∈ [50] := hp
          simp at this
          subst this
          exact (by decide : 50 < 154)
        · exact fun e b' h => .inl h.1
        · intro e b' h
          obtain ⟨rfl, rfl⟩ := h
          refine YTops.step rfl (YTops.step rfl (YTops.nil ?_))
          show YT _ _ _ _ _ _ _
          refine YT.cond (b := false) rfl (YT.skip ?_)
          show YT _ _ _ _ _ _ _
          exact next _ _ hit (gst_to (xC l c ls rs i k a (o ++ [⟨i, k, p, 0⟩])) (by rfl) rfl ⟨by rfl, by rfl⟩)
theorem iterMake (c : Bool) (ls rs : List SCandidate) {r : List SPair} (h : pairsM c ls rs = some r) :
    IterT Tryz.prog GG cIt 49 paArgs (ofL (paB c ls rs [])) paYL (fun e b => e = .normal ∧ b = ofL (paB c ls rs r)) := by
  refine IterT.of fun l => ?_
  have e0 : entry 49 (paArgs l) (ofL (paB c ls rs [])) = ((xI l c ls rs []).D 49).st := (entry_ext (x := xI l c ls rs []) (by rfl) (by rfl) 49).symm
  rw [e0, eIt]
  refine YT.seq (YT.piece (kR0 l c ls rs []) mixed rfl (by rfl) fun s g => ?_)
  show YT _ _ _ _ _ _ _
  refine YT.gst g ?_
  refine YT.block ?_
  refine YT.loop (fun m s => s.x = .normal ∧ ∃ y : Int × List SPair, Gst GG s.st ((xA l c ls rs y.1 y.2).D 49).st ∧ iter (outStep c ls rs) m y = some r) (fun m s hI => ?_) (n := FUEL) ⟨rfl, (0, []), Gst.same _, h⟩
  obtain ⟨x, st⟩ := s
  obtain ⟨rfl, ⟨i, o⟩, g, hit⟩ := hI
  refine YT.gst g ?_
  cases m with
  | zero => simp [iter] at hit
  | succ m =>
    rw [iter_succ] at hit
    rw [eOut]
    refine YT.seq (YT.piece (kR1 l c ls rs i o) mixed rfl (by rfl) fun s g => ?_)
    show YT _ _ _ _ _ _ _
    refine YT.gst g ?_
    cases hc : decide (i < (ls.length : Int)) with
    | false =>
      have hs0 : outStep c ls rs (i, o) = some (.inr o) := by unfold outStep; simp only [hc]; rfl
      rw [hs0] at hit
      obtain rfl : o = r := Option.some.inj hit
      refine YT.seq (YT.cond (b := false) (by show some (V.bool (decide (i < (ls.length : Int)))) = _; rw [hc]) (YT.exit ?_))
      refine ⟨.inl rfl, 49, tOf (xA1 l c ls rs i o).ts, ofL (paB c ls rs o), ?_, rfl, rfl⟩
      show Gst GG ((xA1 l c ls rs i o).D 49).st _
      rw [ext_susp (by rfl) 49]
      exact Gst.same _
    | true =>
      refine YT.seq (YT.cond (b := true) (by show some (V.bool (decide (i < (ls.length : Int)))) = _; rw [hc]) (YT.skip ?_))
      show YT _ _ _ _ _ _ _
      refine YT.gst (st' := ((xA l c ls rs i o).D 49).st) (gst_to (xA l c ls rs i o) (by rfl) rfl ⟨by rfl, by rfl⟩) ?_
      cases h2 : (gR2 ls i).run with
      | none => have hs0 : outStep c ls rs (i, o) = none := by unfold outStep; simp only [hc, h2]; rfl
                rw [hs0] at hit; simp at hit
      | some a =>
      cases h3 : inM c ls rs i a o with
      | none => have hs0 : outStep c ls rs (i, o) = none := by unfold outStep; simp only [hc, h2, h3]; rfl
                rw [hs0] at hit; simp at hit
      | some o2 =>
      have hs0 : outStep c ls rs (i, o) = some (.inl (wi64 (i + 1), o2)) := by unfold outStep; simp only [hc, h2, h3]; rfl
      rw [hs0] at hit
      refine YT.seq (YT.block (YT.seq (YT.piece (kR2 l c ls rs i o) mixed h2 (by rfl) fun s g => ?_)))
      show YT _ _ _ _ _ _ _
      refine YT.gst g ?_
      refine YT.gst (Gst.snapT (t := 5) (b := 5) (k := ⟨8, true, [caC a]⟩) (row := caC a) rfl rfl rfl (by show 8 < MAPS; decide) (by simp [caC, dcell])) ?_
      refine YT.gst (st' := ((xB l c ls rs i a o).D 49).st) (gst_to (xB l c ls rs i a o) (by rfl) rfl ⟨by rfl, by rfl⟩) ?_
      refine YT.seq (YT.piece (kR3 l c ls rs i a o) mixed rfl (by rfl) fun s g => ?_)
      show YT _ _ _ _ _ _ _
      refine YT.gst g ?_
      refine inner l c ls rs i a o h3 fun st g => ?_
      show YT _ _ _ _ _ _ _
      refine YT.gst g ?_
      refine YT.piece (kR10 l c ls rs i o2) mixed rfl (by rfl) fun s g => ?_
      exact ⟨m, Nat.lt_succ_self m, rfl, (wi64 (i + 1), o2), g, hit⟩
def paFTs : List (Nat × V) := [(6, .ptr 6 0 0), (7, .int .i64 0), (8, .ptr 700061 0 0), (9, .ptr 9 0 0)]
def paFL (c : Bool) (ls rs : List SCandidate) (out : List SPair) : List (Nat × Blk) :=
 [(6, ⟨4, true, [[.bool false, .nilsl, .nilsl, .nilsl]]⟩), (9, ⟨1, true, [[.ref 900070 0 out.length]]⟩), (700061, ⟨4, true, [[.bool c, .ref 700062 0 ls.length, .ref 700063 0 rs.length, .nilsl]]⟩)]
def paFT (ls rs : List SCandidate) (out : List SPair) : List BT := [BT.of 900070 tySPair 4 out true, BT.of 700062 tySCandidate 8 ls true, BT.of 700063 tySCandidate 8 rs true]
def xPa (c : Bool) (ls rs : List SCandidate) (out : List SPair) : Ext := Ext.of .normal (paFTs ++ [(49, .fn 32 [.ptr 700061 0 0] [])]) (paFL c ls rs out) (paFT ls rs out) (by rfl)
def ePa (c : Bool) (ls rs : List SCandidate) (out : List SPair) : Ext := Ext.of .normal paFTs (paFL c ls rs out) (paFT ls rs out) (by rfl)
theorem sh_rows {α : Type} (ty : Ty α) (l : List α) : (List.map ty.c l).map (renL sh) = List.map ty.c l := by
 have h : DataRows (l.map ty.c) := ty.data l
 have : (⟨0, true, List.map ty.c l⟩ : Blk).ren sh = ⟨0, true, List.map ty.c l⟩ := DataRows.ren (k := ⟨0, true, List.map ty.c l⟩) h sh
 have := congrArg Blk.rows this
 exact this
theorem bsMake (c : Bool) (ls rs : List SCandidate) (out : List SPair) : shB (ofL (xPa c ls rs out).bs) = ofL (paB c ls rs out) := by
 rw [shB_ofL]
 have : ((xPa c ls rs out).bs.map fun p => (sh p.1, p.2.ren sh)) = paB c ls rs out := by
  simp only [xPa, Ext.of, paFL, paFT, List.cons_append, List.nil_append, List.map_cons, List.map_nil, BT.of, Blk.ren, sh_rows]
  kernel_rfl
 rw [this]
theorem loopMake (c : Bool) (ls rs : List SCandidate) {r : List SPair} (h : pairsM c ls rs = some r) :
  TV Tryz.prog GG (.rangeFunc (.tmp 49) #[50] paAs paBd) ((xPa c ls rs []).D 154).st (fun e st => e = .normal ∧ Gst GG st ((ePa c ls rs r).D 154).st) := by
 have ht : (fun i => renV sh (((xPa c ls rs []).D 154).st.t i)) = tOf paTs := by
  have : ((xPa c ls rs []).D 154).st.t = tOf (xPa c ls rs []).ts := rfl
  rw [this, tOf_shift]
  have : ((xPa c ls rs []).ts.map fun p => (p.1, renV sh p.2)) = paTs := by kernel_rfl
  rw [this]
 have hb : Tryz.f32.body = some cIt := by kernel_rfl
 refine TV.rangeF (f := 32) (fi := Tryz.f32) (c := cIt) (first := [.ptr 1700061 0 0]) (caps := []) (R := fun e b => e = .normal ∧ b = ofL (paB c ls rs r)) ?_ Tryz.func32 hb (by kernel_rfl) (by kernel_rfl) ?_ (fun i => ?_) ?_ ?_
 ·show some ((fun i => renV sh (((xPa c ls rs []).D 154).st.t i)) 49) = _
  rw [ht]; rfl
 ·intro b k hk
  obtain ⟨q, h1, rfl, _⟩ := find_b (show ofL (xPa c ls rs []).bs b = some k from hk)
  show (((xPa c ls rs []).us).contains q.1 || uTop q.1) = true
  simp only [Ext.us, Bool.or_eq_true, List.contains_eq_mem, decide_eq_true_eq]
  exact .inl (List.mem_map.2 ⟨q, h1, rfl⟩)
 ·have := congrFun ht i
  rw [show renV sh (((xPa c ls rs []).D 154).st.t i) = tOf paTs i from this]
  exact tOf_ok (by rfl) i
 ·have hbb : shB ((xPa c ls rs []).D 154).st.b = ofL (paB c ls rs []) := bsMake c ls rs []
  rw [ht, hbb]
  have e : max Tryz.f32.ntmps ([V.ptr 1700061 0 0].length + 1 + ([] : List V).length) = 49 := by kernel_rfl
  rw [e]
  exact iterMake c ls rs h
 ·intro e b' ho
  obtain ⟨rfl, rfl⟩ := ho
  refine ⟨.inl rfl, ofL (xPa c ls rs r).bs, (bsMake c ls rs r).symm, ?_, rfl, ?_⟩
  ·show (stOf 154 (xPa c ls rs []).ts (xPa c ls rs r).bs (xPa c ls rs []).us).known
   refine ⟨fun i b hm => ?_, fun i k hk => ?_⟩
   ·have hm' : b ∈ refsV (tOf (xPa c ls rs []).ts i) := hm
    unfold tOf at hm'
    cases hf : (xPa c ls rs []).ts.find? (fun p => p.1 == i) with
    | none => rw [hf] at hm'; simp [refsV] at hm'
    | some p =>
     rw [hf] at hm'
     have all : ((xPa c ls rs []).ts.all fun p => (refsV p.2).all fun b => (xPa c ls rs []).us.contains b) = true := by rfl
     have := List.all_eq_true.1 (List.all_eq_true.1 all p (List.mem_of_find?_eq_some hf)) b hm'
     show ((xPa c ls rs []).us.contains b || uTop b) = true
     rw [this]; rfl
   ·obtain ⟨q, h1, rfl, rfl⟩ := find_b (show ofL (xPa c ls rs r).bs i = some k from hk)
    have husl : (xPa c ls rs r).us = (xPa c ls rs []).us := rfl
    refine ⟨?_, fun b hm => ?_⟩
    ·show ((xPa c ls rs []).us.contains q.1 || uTop q.1) = true
     rw [← husl]
     simp only [Ext.us, Bool.or_eq_true, List.contains_eq_mem, decide_eq_true_eq]
     exact .inl (List.mem_map.2 ⟨q, h1, rfl⟩)
    ·have : q ∈ paFL c ls rs r ++ (paFT ls rs r).map fun x => (x.id, x.k) := h1
     rcases List.mem_append.1 this with h2 | h2
     ·have all : ((paFL c ls rs r).all fun q => (refsL q.2.rows.flatten).all fun b => (xPa c ls rs []).us.contains b) = true := by rfl
      have := List.all_eq_true.1 (List.all_eq_true.1 all q h2) b hm
      show ((xPa c ls rs []).us.contains b || uTop b) = true
      rw [this]; rfl
     ·have hdat := bts_dat _ h2
      rw [hdat.refs] at hm; simp at hm
  ·show Gst GG (stOf 154 (xPa c ls rs []).ts (xPa c ls rs r).bs (xPa c ls rs []).us) _
   exact gst_to (ePa c ls rs r) (by rfl) rfl ⟨by rfl, by rfl⟩
noncomputable def subPairs (c : Bool) (ls rs : List SCandidate) : Sub Tryz.prog GG (List SPair) :=
 ⟨.rangeFunc (.tmp 49) #[50] paAs paBd, 154, xPa c ls rs [], pairsM c ls rs, ePa c ls rs, fun _ h => loopMake c ls rs h⟩
end Go.Proofs.YtioobnkmohikjaaGreatDoor
namespace Go.Proofs.YtioobnkmohikjaaGreatDoor
open Go Go.EV
set_option maxRecDepth 100000
noncomputable def cMk : Code := cB (cR (Tryz.f11.body.getD .skip))
def cWt : Code → Code
 | .seq _ (.seq _ (.seq _ (.seq _ (.seq _ (.seq _ (.seq _ (.seq _ (.seq _ (.seq _ (.seq _ (.seq c _))))))))))) => c
 | _ => .skip
noncomputable def wCode : Code := cWt cMk
noncomputable def wOps29 : Array Oper := rOps (cL wCode)
noncomputable def wLoop : Code := cB (cB (cR wCode))
noncomputable def wOps30 : Array Oper := rOps (cL wLoop)
noncomputable def wBody : Code := cB (cR (cR wLoop))
noncomputable def wOps31 : Array Oper := rOps (cL wBody)
noncomputable def wOps32 : Array Oper := rOps (cR wBody)
theorem eWt : wCode = .seq (.region 29 wOps29 false) (.block 6 (.loop (.seq (.region 30 wOps30 false) (.seq (.cond (.tmp 139) .skip (.exit 6)) (.block 7 (.seq (.region 31 wOps31 false) (.region 32 wOps32 false))))))) := by kernel_rfl
def wTs : List (Nat × V) := [(6, .ptr 6 0 0), (7, .int .i64 0), (8, .ptr 700061 0 0)]
def wL (c : Bool) (ls rs : List SCandidate) (m : Nat) : List (Nat × Blk) := [(6, ⟨4, true, [[.bool false, .nilsl, .nilsl, .nilsl]]⟩), (700061, ⟨4, true, [[.bool c, .ref 700062 0 ls.length, .ref 700063 0 rs.length, .ref 700064 0 m]]⟩)]
def wT (ls rs : List SCandidate) (s : List SPair) : List BT := [BT.of 700062 tySCandidate 8 ls true, BT.of 700063 tySCandidate 8 rs true, BT.of 700064 tySPair 4 s true]
section
variable (c : Bool) (ls rs : List SCandidate) (m : Nat)
def eW (s : List SPair) : Ext := Ext.of .normal wTs (wL c ls rs m) (wT ls rs s) (by rfl)
def xW (l : List SEnt90) (s : List SPair) : Ext := Ext.of .normal (wTs ++ [(14, .mp 700065)]) (wL c ls rs m) (wT ls rs s ++ [BT.of 700065 tySEnt90 1114370 l true]) (by rfl)
def xWi (i : Int) (s : List SPair) : Ext := Ext.of .normal (wTs ++ [(21, .int .i64 i)]) (wL c ls rs m) (wT ls rs s) (by rfl)
def gW (i : Int) (s : List SPair) : TT (List SPair) :=
 .chk 32007 (decide (0 ≤ i) && decide (i < (m : Int))) (.row 32009 tySPair s (0 + i.toNat) true fun x =>
  .re 32009 (ReW.put 700064 4 tySPair s (0 + i.toNat) (SPair.mk x.fLocal x.fRemote x.fPriority 1)) (.done (s.set (0 + i.toNat) (SPair.mk x.fLocal x.fRemote x.fPriority 1))))
theorem kW (i : Int) (s : List SPair) : PieceOps Tryz.prog GG [6, 7, 8] 154 32 wOps32 9 (xWi c ls rs m i s) (gW m i s) (fun s' => eW c ls rs m s') := by unfold PieceOps; kernel_rfl
end
def wSet (m : Nat) (i : Int) (s : List SPair) : Option (List SPair) :=
 bif decide (0 ≤ i) && decide (i < (m : Int)) then (match s[i.toNat]? with | some x => some (s.set i.toNat (SPair.mk x.fLocal x.fRemote x.fPriority 1)) | none => none) else none
theorem gW_run (m : Nat) (i : Int) (s : List SPair) : (gW m i s).run = wSet m i s := by
 unfold gW wSet
 simp only [T.run, Nat.zero_add, cond_true]
 cases (decide (0 ≤ i) && decide (i < (m : Int))) with
 | false => rfl
 | true => simp only [cond_true]; cases s[i.toNat]? <;> rfl
theorem wSet_comm (m : Nat) (i j : Int) (s : List SPair) : (wSet m i s).bind (wSet m j) = (wSet m j s).bind (wSet m i) := by
 unfold wSet
 cases hi : (decide (0 ≤ i) && decide (i < (m : Int))) <;> cases hj : (decide (0 ≤ j) && decide (j < (m : Int)))
 ·rfl
 ·simp only [cond_true, cond_false]
  cases s[j.toNat]? <;> rfl
 ·simp only [cond_true, cond_false]
  cases s[i.toNat]? <;> rfl
 ·simp only [cond_true]
  by_cases e : i.toNat = j.toNat
  ·rw [e]
  ·cases h1 : s[i.toNat]? with
   | none =>
    cases h2 : s[j.toNat]? with
    | none => rfl
    | some y => simp only [Option.bind_none, Option.bind_some, List.getElem?_set_ne (Ne.symm e), h1]
   | some x =>
    cases h2 : s[j.toNat]? with
    | none => simp only [Option.bind_none, Option.bind_some, List.getElem?_set_ne e, h2]
    | some y => simp only [Option.bind_some, List.getElem?_set_ne e, List.getElem?_set_ne (Ne.symm e), h1, h2, Option.some.injEq]; exact List.set_comm _ _ e
def wAll (m : Nat) (l : List SEnt90) (s : List SPair) : Option (List SPair) := foldB (fun x s => wSet m x.fv s) l s
theorem loopWait (c : Bool) (ls rs : List SCandidate) (m : Nat) (l : List SEnt90) (s0 : List SPair) {r : List SPair} (h : wAll m l s0 = some r) :
  TV Tryz.prog GG wCode ((xW c ls rs m l s0).D 154).st (fun e st => e = .normal ∧ Gst GG st ((eW c ls rs m r).D 154).st) := by
 rw [eWt]
 have key := TV.rangeMap (P := Tryz.prog) (G := GG) (ty := tySEnt90) (z := 1114370) (b := 700065) (mt := 90) (kt := 91) (et := 3) (n := 154) (ex := true) (l := l) (kd := .i64) (fv := fun x => x.fv) (i29 := 29) (i30 := 30) (i31 := 31) (i32 := 32) (B := 6) (B2 := 7) (ops29 := wOps29) (ops30 := wOps30) (ops31 := wOps31) (ops32 := wOps32)
  (tm := 14) (t0 := 136) (it := 137) (tn := 138) (tb := 139) (te := 140) (tw := 141) (tv := 21) (st := ((xW c ls rs m l s0).D 154).st) (S := fun s => ((eW c ls rs m s).D 154).st) (body := fun x s => wSet m x.fv s) (s0 := s0) (r := r)
  (by kernel_rfl) (by kernel_rfl) (by kernel_rfl) (by kernel_rfl) (by decide) (by decide) (by kernel_rfl) ⟨by decide, by decide⟩ (by decide) rfl rfl rfl (fun x => rfl) (fun s => ⟨rfl, rfl, rfl, rfl, rfl, rfl, rfl⟩)
  (gst_to (eW c ls rs m s0) (by rfl) rfl ⟨by rfl, by rfl⟩) (fun x s s' hs => ?_) (fun x y s => wSet_comm m x.fv y.fv s) h
 ·exact key.mono fun e st hq => ⟨hq.1, by rw [hq.2]; exact Gst.same _⟩
 ·have e : ((eW c ls rs m s).D 154).st.setT 21 (.int .i64 x.fv) = ((xWi c ls rs m x.fv s).D 154).st := by
   refine St.ext' rfl fun l => ?_
   cases l with
   | b j => exact ⟨rfl, rfl⟩
   | t j =>
    show (if j = 21 then V.int .i64 x.fv else tOf wTs j) = tOf (wTs ++ [(21, .int .i64 x.fv)]) j
    unfold tOf
    by_cases hj : j = 21
    ·subst hj; rfl
    ·rw [if_neg hj, List.find?_append]
     cases wTs.find? (fun p => p.1 == j) with
     | some p => rfl
     | none =>
      have : ((21 : Nat) == j) = false := by simpa using fun e => hj e.symm
      simp [this]
  have := (kW c ls rs m x.fv s).tv mixed (r := s') (by rw [gW_run]; exact hs) (by rfl)
  rw [← e] at this
  exact this
noncomputable def subWait (c : Bool) (ls rs : List SCandidate) (m : Nat) (l : List SEnt90) (s : List SPair) : Sub Tryz.prog GG (List SPair) :=
 ⟨wCode, 154, xW c ls rs m l s, wAll m l s, eW c ls rs m, fun _ h => loopWait c ls rs m l s h⟩
end Go.Proofs.YtioobnkmohikjaaGreatDoor
namespace Go.Proofs.YtioobnkmohikjaaGreatDoor
open Go Go.EV
set_option maxRecDepth 100000
noncomputable def g31 (p0 : (List SCandidate)) : TT Unit := .app 3003 tySCandidate [] p0 88 true (by intros; rfl) (.done ())
theorem k31y : Piece Tryz.prog GG [2] 8 (cloneYes Tryz.f31.body) (Ext.lit .normal [(2, .nilsl)] []) (.done () : TT Unit) (fun _ => Ext.lit .ret [(2, .nilsl)] []) := by unfold Piece; kernel_rfl
theorem k31r (p0 : (List SCandidate)) : Piece Tryz.prog GG [0, 2, 5, 6, 7] 8 (cloneRest Tryz.f31.body) (Ext.lit .normal [(0, .sl false 8 (List.map tySCandidate.c p0)), (2, .nilsl)] []) (g31 p0) (fun _ => Ext.of .ret [(2, .ref 7 0 ([] ++ p0).length)] [] [BT.of 7 tySCandidate 8 ([] ++ p0)] (by rfl)) := by unfold Piece; kernel_rfl
theorem k31 (p0 : (List SCandidate)) {r : Unit} (h : (g31 p0).run = some r) : CallC Tryz.prog GG 31 [.sl false 8 (List.map tySCandidate.c p0)] (ofL []) (.ref 7 0 p0.length) (ofL [(7, ⟨8, true, List.map tySCandidate.c p0⟩)]) :=
 clone_ok (ty := tySCandidate) (ops0 := cloneOps0 Tryz.f31.body) (ops1 := cloneOps1 Tryz.f31.body) (yes := cloneYes Tryz.f31.body) (rest := cloneRest Tryz.f31.body) (t := 31) mixed (by decide) Tryz.func31 (by kernel_rfl) (by kernel_rfl) (by kernel_rfl) (by kernel_rfl) (by kernel_rfl) (by kernel_rfl) (by kernel_rfl) (by kernel_rfl) (by kernel_rfl) k31y (k31r p0) (by rfl) h
noncomputable def s31 (p0 : (List SCandidate)) : EV.Spec Tryz.prog GG Unit := ⟨31, [.sl false 8 (List.map tySCandidate.c p0)], [], (g31 p0).run, fun _ => .ref 7 0 p0.length, fun _ => [(7, ⟨8, true, List.map tySCandidate.c p0⟩)], [7], fun _ p hp _ => by
 rw [List.mem_singleton.1 hp]; exact tySCandidate.data _, fun _ h => k31 p0 h⟩
noncomputable def g11 (p0 : (List SCandidate)) (p1 : (List SCandidate)) (p2 : Bool) : TT (SList × Int) :=
 .cnd 1 [29]
 (.br 1005 (decide ((12 : Int) < (mlen tySCandidate p0)))
  (.done true)
  (.done (decide ((12 : Int) < (mlen tySCandidate p1)))))
 (fun (c598 : Bool) => [.bool c598]) fun c598 =>
 .br 0 c598
 (.done ((SList.mk false [] [] []), 3))
 (.cnd 3 [38]
  (.call 3002 (s30 p0) [] [] fun r599 =>
   .br 3005 (!r599)
   (.done true)
   (.call 3006 (s30 p1) [] [] fun r600 =>
    .done (!r600)))
  (fun (c601 : Bool) => [.bool c601]) fun c601 =>
  .br 0 c601
  (.done ((SList.mk false [] [] []), 90))
  (.call 5003 (s31 p0) [] [(7, 500040)] fun r602 =>
   .call 5005 (s31 p1) [] [(7, 500041)] fun r603 =>
   .gh 1 (.ren 47 700061) (.gh 1 (.ren 500040 700062) (.gh 1 (.ren 500041 700063) (.gh 1 (.virtC 900070 9 0 4) (.sub (subPairs p2 p0 p1) fun r604 =>
   .call 10002 (s33 r604.length r604) [(1000000, 900070)] [] fun r615 =>
   .opr 11001 (Rule.makeMap 86 57 1114373 (by decide)) fun _ =>
   .gh 1 (.virtC 600043 700061 3 4) (.bind 0
   (.lp (fun (l620 : (List SEnt86) × (List SPair) × Int) => Ext.of .normal [(6, .ptr 6 0 0), (7, .int .i64 0), (8, .ptr 700061 0 0), (11, .mp 57), (58, .ref 900070 0 r604.length), (59, .int .i64 (r604.length : Int)), (60, .int .i64 l620.2.2)] [(6, ⟨4, true, [[.bool false, .nilsl, .nilsl, .nilsl]]⟩), (700061, ⟨4, true, [[.bool p2, .ref 700062 0 p0.length, .ref 700063 0 p1.length, .ref 600043 0 l620.2.1.length]]⟩)] [BT.of 57 tySEnt86 1114373 l620.1 true, BT.of 600043 tySPair 4 l620.2.1 true, BT.of 700062 tySCandidate 8 p0 true, BT.of 700063 tySCandidate 8 p1 true, BT.of 900070 tySPair 4 r615 true] (by rfl))
    (fun l620 =>
     .br 0 (decide (l620.2.2 < (r604.length : Int)))
     (.chk 14001 (decide (0 ≤ l620.2.2) && decide (l620.2.2 < (r604.length : Int))) (.row 14002 tySPair r615 (0 + l620.2.2.toNat) true fun x621 =>
      .br 0 ((l620.2.1.length : Int) == 36)
      (.done (.inr l620.2.1))
      (.view 16004 (s36 (SPlanner.mk (SList.mk p2 p0 p1 l620.2.1)) x621) [(VwW.of 700062 tySCandidate p0), (VwW.of 700063 tySCandidate p1), (VwW.of 600043 tySPair l620.2.1)] fun r622 =>
       .opr 16005 (Rule.look (mt := 86) (kt := 88) (et := 4) (z := 1114373) (ty := tySEnt86) (p := (fun x => ((decide (r622.fbase.fHost = x.fk.fbase.fHost)) && ((r622.fbase.fPort == x.fk.fbase.fPort) && ((decide (r622.faddr.fHost = x.fk.faddr.fHost)) && ((r622.faddr.fPort == x.fk.faddr.fPort) && ((r622.fcomponent == x.fk.fcomponent) && true))))))) (kc := [.str r622.fbase.fHost, .int .i64 r622.fbase.fPort, .str r622.faddr.fHost, .int .i64 r622.faddr.fPort, .int .i64 r622.fcomponent]) (.tmp 71) (.tmp 74) 75 57 true l620.1 (.bool false) (.bool (mlook l620.1 (fun x => ((decide (r622.fbase.fHost = x.fk.fbase.fHost)) && ((r622.fbase.fPort == x.fk.fbase.fPort) && ((decide (r622.faddr.fHost = x.fk.faddr.fHost)) && ((r622.faddr.fPort == x.fk.faddr.fPort) && ((r622.fcomponent == x.fk.fcomponent) && true)))))) (fun x => x.fv) false)) ⟨by kernel_rfl, by kernel_rfl, by kernel_rfl, fun _ => by kernel_rfl⟩ (by kernel_rfl) (mlook_map _ _ (fun x : SEnt86 => x.fv) false V.bool)) fun _ =>
       .br 0 (mlook l620.1 (fun x => ((decide (r622.fbase.fHost = x.fk.fbase.fHost)) && ((r622.fbase.fPort == x.fk.fbase.fPort) && ((decide (r622.faddr.fHost = x.fk.faddr.fHost)) && ((r622.faddr.fPort == x.fk.faddr.fPort) && ((r622.fcomponent == x.fk.fcomponent) && true)))))) (fun x => x.fv) false)
       (.done (.inl (l620.1, l620.2.1, (wi64 (l620.2.2 + 1)))))
       (.view 17004 (s36 (SPlanner.mk (SList.mk p2 p0 p1 l620.2.1)) x621) [(VwW.of 700062 tySCandidate p0), (VwW.of 700063 tySCandidate p1), (VwW.of 600043 tySPair l620.2.1)] fun r623 =>
        .opr 17005 (Rule.put (mt := 86) (kt := 88) (et := 4) (z := 1114373) (ty := tySEnt86) (p := (fun x => ((decide (r623.fbase.fHost = x.fk.fbase.fHost)) && ((r623.fbase.fPort == x.fk.fbase.fPort) && ((decide (r623.faddr.fHost = x.fk.faddr.fHost)) && ((r623.faddr.fPort == x.fk.faddr.fPort) && ((r623.fcomponent == x.fk.fcomponent) && true))))))) (kc := [.str r623.fbase.fHost, .int .i64 r623.fbase.fPort, .str r623.faddr.fHost, .int .i64 r623.faddr.fPort, .int .i64 r623.fcomponent]) (.tmp 76) (.tmp 79) (.const (.bool true)) 57 l620.1 (SEnt86.mk r623 true) [.bool true] ⟨by kernel_rfl, by kernel_rfl, by kernel_rfl, fun _ => by kernel_rfl⟩ (by rfl) (by kernel_rfl) (by kernel_rfl) (by decide) (by decide)) fun _ =>
        .app 18009 tySPair l620.2.1 [x621] 32 false (by intro h; cases h) (.gh 0 (.drop [600043]) (.gh 0 (.ren 88 600043) (.done (.inl ((mput l620.1 (fun x => ((decide (r623.fbase.fHost = x.fk.fbase.fHost)) && ((r623.fbase.fPort == x.fk.fbase.fPort) && ((decide (r623.faddr.fHost = x.fk.faddr.fHost)) && ((r623.faddr.fPort == x.fk.faddr.fPort) && ((r623.fcomponent == x.fk.fcomponent) && true)))))) (SEnt86.mk r623 true)), (l620.2.1 ++ [x621]), (wi64 (l620.2.2 + 1)))))))))))
     (.done (.inr l620.2.1)))
    ([], [], 0))
   (fun (e624 : (List SPair)) => Ext.of (.exit 2) [(6, .ptr 6 0 0), (7, .int .i64 0), (8, .ptr 700061 0 0)] [(6, ⟨4, true, [[.bool false, .nilsl, .nilsl, .nilsl]]⟩), (700061, ⟨4, true, [[.bool p2, .ref 700062 0 p0.length, .ref 700063 0 p1.length, .ref 600043 0 e624.length]]⟩)] [BT.of 600043 tySPair 4 e624 true, BT.of 700062 tySCandidate 8 p0 true, BT.of 700063 tySCandidate 8 p1 true] (by rfl))
   (fun e624 =>
    .opr 20001 (Rule.makeMap 90 93 1114370 (by decide)) fun _ =>
    .bind 1
    (.lp (fun (l632 : (List SEnt90) × Int) => Ext.of .normal [(6, .ptr 6 0 0), (7, .int .i64 0), (8, .ptr 700061 0 0), (14, .mp 93), (98, .ref 600043 0 e624.length), (99, .int .i64 (e624.length : Int)), (100, .int .i64 l632.2)] [(6, ⟨4, true, [[.bool false, .nilsl, .nilsl, .nilsl]]⟩), (700061, ⟨4, true, [[.bool p2, .ref 700062 0 p0.length, .ref 700063 0 p1.length, .ref 600043 0 e624.length]]⟩)] [BT.of 93 tySEnt90 1114370 l632.1 true, BT.of 600043 tySPair 4 e624 true, BT.of 700062 tySCandidate 8 p0 true, BT.of 700063 tySCandidate 8 p1 true] (by rfl))
     (fun l632 =>
      .br 0 (decide (l632.2 < (e624.length : Int)))
      (.chk 23002 (decide (0 ≤ l632.2) && decide (l632.2 < (e624.length : Int))) (.row 23003 tySPair e624 (0 + l632.2.toNat) true fun x633 =>
       .view 24003 (s37 (SPlanner.mk (SList.mk p2 p0 p1 e624)) x633) [(VwW.of 700062 tySCandidate p0), (VwW.of 700063 tySCandidate p1), (VwW.of 600043 tySPair e624)] fun r634 =>
       .opr 25003 (Rule.look2 (mt := 90) (kt := 91) (et := 3) (z := 1114370) (ty := tySEnt90) (p := (fun x => ((decide (r634.a0 = x.fk.a0)) && ((decide (r634.a1 = x.fk.a1)) && true)))) (kc := [.str r634.a0, .str r634.a1]) (.tmp 109) (.tmp 110) 111 93 true l632.1 (.int .i64 0) (.int .i64 (mlook l632.1 (fun x => ((decide (r634.a0 = x.fk.a0)) && ((decide (r634.a1 = x.fk.a1)) && true))) (fun x => x.fv) 0)) ⟨by kernel_rfl, by kernel_rfl, by kernel_rfl, fun _ => by kernel_rfl⟩ (by kernel_rfl) (mlook_map _ _ (fun x : SEnt90 => x.fv) 0 (V.int .i64))) fun _ =>
       .cnd 26 [131]
       (.br 26004 (!(l632.1.findIdx? (fun x => ((decide (r634.a0 = x.fk.a0)) && ((decide (r634.a1 = x.fk.a1)) && true)))).isSome)
        (.done true)
        (.view 26006 (s38 (SPlanner.mk (SList.mk p2 p0 p1 e624)) x633) [(VwW.of 700062 tySCandidate p0), (VwW.of 700063 tySCandidate p1), (VwW.of 600043 tySPair e624)] fun r635 =>
         .chk 26014 (decide (0 ≤ (mlook l632.1 (fun x => ((decide (r634.a0 = x.fk.a0)) && ((decide (r634.a1 = x.fk.a1)) && true))) (fun x => x.fv) 0)) && decide ((mlook l632.1 (fun x => ((decide (r634.a0 = x.fk.a0)) && ((decide (r634.a1 = x.fk.a1)) && true))) (fun x => x.fv) 0) < (e624.length : Int))) (.row 26015 tySPair e624 (0 + (mlook l632.1 (fun x => ((decide (r634.a0 = x.fk.a0)) && ((decide (r634.a1 = x.fk.a1)) && true))) (fun x => x.fv) 0).toNat) true fun x636 =>
         .view 26016 (s38 (SPlanner.mk (SList.mk p2 p0 p1 e624)) x636) [(VwW.of 700062 tySCandidate p0), (VwW.of 700063 tySCandidate p1), (VwW.of 600043 tySPair e624)] fun r637 =>
         .done (decide (r635 < r637)))))
       (fun (c638 : Bool) => [.bool c638]) fun c638 =>
       .br 0 c638
       (.opr 27004 (Rule.put (mt := 90) (kt := 91) (et := 3) (z := 1114370) (ty := tySEnt90) (p := (fun x => ((decide (r634.a0 = x.fk.a0)) && ((decide (r634.a1 = x.fk.a1)) && true)))) (kc := [.str r634.a0, .str r634.a1]) (.tmp 132) (.tmp 133) (.tmp 134) 93 l632.1 (SEnt90.mk r634 l632.2) [.int .i64 l632.2] ⟨by kernel_rfl, by kernel_rfl, by kernel_rfl, fun _ => by kernel_rfl⟩ (by rfl) (by kernel_rfl) (by kernel_rfl) (by decide) (by decide)) fun _ =>
        .done (.inl ((mput l632.1 (fun x => ((decide (r634.a0 = x.fk.a0)) && ((decide (r634.a1 = x.fk.a1)) && true))) (SEnt90.mk r634 l632.2)), (wi64 (l632.2 + 1)))))
       (.done (.inl (l632.1, (wi64 (l632.2 + 1)))))))
      (.done (.inr l632.1)))
     ([], 0))
    (fun (e639 : (List SEnt90)) => Ext.of (.exit 4) [(6, .ptr 6 0 0), (7, .int .i64 0), (8, .ptr 700061 0 0), (14, .mp 93)] [(6, ⟨4, true, [[.bool false, .nilsl, .nilsl, .nilsl]]⟩), (700061, ⟨4, true, [[.bool p2, .ref 700062 0 p0.length, .ref 700063 0 p1.length, .ref 600043 0 e624.length]]⟩)] [BT.of 93 tySEnt90 1114370 e639 true, BT.of 600043 tySPair 4 e624 true, BT.of 700062 tySCandidate 8 p0 true, BT.of 700063 tySCandidate 8 p1 true] (by rfl))
    (fun e639 =>
     .gh 1 (.ren 600043 700064) (.gh 1 (.ren 93 700065) (.sub (subWait p2 p0 p1 e624.length e639 e624) fun r640 =>
     .gh 0 (.share (VwW.of 700062 tySCandidate p0) 1) (.gh 0 (.share (VwW.of 700063 tySCandidate p1) 1) (.gh 0 (.share (VwW.part 700064 tySPair r640 e624.length) 1) (.done ((SList.mk p2 p0 p1 (r640.take e624.length)), 0)))))))))))))))
noncomputable def g11_1 (p0 : Bool) (p1 : (List SCandidate)) (p2 : (List SCandidate)) : TT (Int × Bool × (List SCandidate) × (List SCandidate) × (List SPair)) :=
 .cnd 1 [29]
 (.br 1005 (decide ((12 : Int) < (p1.length : Int)))
  (.done true)
  (.done (decide ((12 : Int) < (p2.length : Int)))))
 (fun (c644 : Bool) => [.bool c644]) fun c644 =>
 .br 0 c644
 (.done (3, false, [], [], []))
 (.cnd 3 [38]
  (.view 3002 (s30 p1) [(VwW.of 1000000 tySCandidate p1)] fun r645 =>
   .br 3005 (!r645)
   (.done true)
   (.view 3006 (s30 p2) [(VwW.of 1000001 tySCandidate p2)] fun r646 =>
    .done (!r646)))
  (fun (c647 : Bool) => [.bool c647]) fun c647 =>
  .br 0 c647
  (.done (90, false, [], [], []))
  (.gh 7 (.share (VwW.of 1000000 tySCandidate p1) 0) (.gh 7 (.share (VwW.of 1000001 tySCandidate p2) 0) (.call 5003 (s31 p1) [] [(7, 500045)] fun r648 =>
   .call 5005 (s31 p2) [] [(7, 500046)] fun r649 =>
   .gh 1 (.ren 47 700061) (.gh 1 (.ren 500045 700062) (.gh 1 (.ren 500046 700063) (.gh 1 (.virtC 900070 9 0 4) (.sub (subPairs p0 p1 p2) fun r650 =>
   .call 10002 (s33 r650.length r650) [(1000000, 900070)] [] fun r661 =>
   .opr 11001 (Rule.makeMap 86 57 1114373 (by decide)) fun _ =>
   .gh 1 (.virtC 600048 700061 3 4) (.bind 0
   (.lp (fun (l666 : (List SEnt86) × (List SPair) × Int) => Ext.of .normal [(6, .ptr 6 0 0), (7, .int .i64 0), (8, .ptr 700061 0 0), (11, .mp 57), (58, .ref 900070 0 r650.length), (59, .int .i64 (r650.length : Int)), (60, .int .i64 l666.2.2)] [(6, ⟨4, true, [[.bool false, .nilsl, .nilsl, .nilsl]]⟩), (700061, ⟨4, true, [[.bool p0, .ref 700062 0 p1.length, .ref 700063 0 p2.length, .ref 600048 0 l666.2.1.length]]⟩)] [BT.of 57 tySEnt86 1114373 l666.1 true, BT.of 600048 tySPair 4 l666.2.1 true, BT.of 700062 tySCandidate 8 p1 true, BT.of 700063 tySCandidate 8 p2 true, BT.of 900070 tySPair 4 r661 true] (by rfl))
    (fun l666 =>
     .br 0 (decide (l666.2.2 < (r650.length : Int)))
     (.chk 14001 (decide (0 ≤ l666.2.2) && decide (l666.2.2 < (r650.length : Int))) (.row 14002 tySPair r661 (0 + l666.2.2.toNat) true fun x667 =>
      .br 0 ((l666.2.1.length : Int) == 36)
      (.done (.inr l666.2.1))
      (.view 16004 (s36 (SPlanner.mk (SList.mk p0 p1 p2 l666.2.1)) x667) [(VwW.of 700062 tySCandidate p1), (VwW.of 700063 tySCandidate p2), (VwW.of 600048 tySPair l666.2.1)] fun r668 =>
       .opr 16005 (Rule.look (mt := 86) (kt := 88) (et := 4) (z := 1114373) (ty := tySEnt86) (p := (fun x => ((decide (r668.fbase.fHost = x.fk.fbase.fHost)) && ((r668.fbase.fPort == x.fk.fbase.fPort) && ((decide (r668.faddr.fHost = x.fk.faddr.fHost)) && ((r668.faddr.fPort == x.fk.faddr.fPort) && ((r668.fcomponent == x.fk.fcomponent) && true))))))) (kc := [.str r668.fbase.fHost, .int .i64 r668.fbase.fPort, .str r668.faddr.fHost, .int .i64 r668.faddr.fPort, .int .i64 r668.fcomponent]) (.tmp 71) (.tmp 74) 75 57 true l666.1 (.bool false) (.bool (mlook l666.1 (fun x => ((decide (r668.fbase.fHost = x.fk.fbase.fHost)) && ((r668.fbase.fPort == x.fk.fbase.fPort) && ((decide (r668.faddr.fHost = x.fk.faddr.fHost)) && ((r668.faddr.fPort == x.fk.faddr.fPort) && ((r668.fcomponent == x.fk.fcomponent) && true)))))) (fun x => x.fv) false)) ⟨by kernel_rfl, by kernel_rfl, by kernel_rfl, fun _ => by kernel_rfl⟩ (by kernel_rfl) (mlook_map _ _ (fun x : SEnt86 => x.fv) false V.bool)) fun _ =>
       .br 0 (mlook l666.1 (fun x => ((decide (r668.fbase.fHost = x.fk.fbase.fHost)) && ((r668.fbase.fPort == x.fk.fbase.fPort) && ((decide (r668.faddr.fHost = x.fk.faddr.fHost)) && ((r668.faddr.fPort == x.fk.faddr.fPort) && ((r668.fcomponent == x.fk.fcomponent) && true)))))) (fun x => x.fv) false)
       (.done (.inl (l666.1, l666.2.1, (wi64 (l666.2.2 + 1)))))
       (.view 17004 (s36 (SPlanner.mk (SList.mk p0 p1 p2 l666.2.1)) x667) [(VwW.of 700062 tySCandidate p1), (VwW.of 700063 tySCandidate p2), (VwW.of 600048 tySPair l666.2.1)] fun r669 =>
        .opr 17005 (Rule.put (mt := 86) (kt := 88) (et := 4) (z := 1114373) (ty := tySEnt86) (p := (fun x => ((decide (r669.fbase.fHost = x.fk.fbase.fHost)) && ((r669.fbase.fPort == x.fk.fbase.fPort) && ((decide (r669.faddr.fHost = x.fk.faddr.fHost)) && ((r669.faddr.fPort == x.fk.faddr.fPort) && ((r669.fcomponent == x.fk.fcomponent) && true))))))) (kc := [.str r669.fbase.fHost, .int .i64 r669.fbase.fPort, .str r669.faddr.fHost, .int .i64 r669.faddr.fPort, .int .i64 r669.fcomponent]) (.tmp 76) (.tmp 79) (.const (.bool true)) 57 l666.1 (SEnt86.mk r669 true) [.bool true] ⟨by kernel_rfl, by kernel_rfl, by kernel_rfl, fun _ => by kernel_rfl⟩ (by rfl) (by kernel_rfl) (by kernel_rfl) (by decide) (by decide)) fun _ =>
        .app 18009 tySPair l666.2.1 [x667] 32 false (by intro h; cases h) (.gh 0 (.drop [600048]) (.gh 0 (.ren 88 600048) (.done (.inl ((mput l666.1 (fun x => ((decide (r669.fbase.fHost = x.fk.fbase.fHost)) && ((r669.fbase.fPort == x.fk.fbase.fPort) && ((decide (r669.faddr.fHost = x.fk.faddr.fHost)) && ((r669.faddr.fPort == x.fk.faddr.fPort) && ((r669.fcomponent == x.fk.fcomponent) && true)))))) (SEnt86.mk r669 true)), (l666.2.1 ++ [x667]), (wi64 (l666.2.2 + 1)))))))))))
     (.done (.inr l666.2.1)))
    ([], [], 0))
   (fun (e670 : (List SPair)) => Ext.of (.exit 2) [(6, .ptr 6 0 0), (7, .int .i64 0), (8, .ptr 700061 0 0)] [(6, ⟨4, true, [[.bool false, .nilsl, .nilsl, .nilsl]]⟩), (700061, ⟨4, true, [[.bool p0, .ref 700062 0 p1.length, .ref 700063 0 p2.length, .ref 600048 0 e670.length]]⟩)] [BT.of 600048 tySPair 4 e670 true, BT.of 700062 tySCandidate 8 p1 true, BT.of 700063 tySCandidate 8 p2 true] (by rfl))
   (fun e670 =>
    .opr 20001 (Rule.makeMap 90 93 1114370 (by decide)) fun _ =>
    .bind 1
    (.lp (fun (l678 : (List SEnt90) × Int) => Ext.of .normal [(6, .ptr 6 0 0), (7, .int .i64 0), (8, .ptr 700061 0 0), (14, .mp 93), (98, .ref 600048 0 e670.length), (99, .int .i64 (e670.length : Int)), (100, .int .i64 l678.2)] [(6, ⟨4, true, [[.bool false, .nilsl, .nilsl, .nilsl]]⟩), (700061, ⟨4, true, [[.bool p0, .ref 700062 0 p1.length, .ref 700063 0 p2.length, .ref 600048 0 e670.length]]⟩)] [BT.of 93 tySEnt90 1114370 l678.1 true, BT.of 600048 tySPair 4 e670 true, BT.of 700062 tySCandidate 8 p1 true, BT.of 700063 tySCandidate 8 p2 true] (by rfl))
     (fun l678 =>
      .br 0 (decide (l678.2 < (e670.length : Int)))
      (.chk 23002 (decide (0 ≤ l678.2) && decide (l678.2 < (e670.length : Int))) (.row 23003 tySPair e670 (0 + l678.2.toNat) true fun x679 =>
       .view 24003 (s37 (SPlanner.mk (SList.mk p0 p1 p2 e670)) x679) [(VwW.of 700062 tySCandidate p1), (VwW.of 700063 tySCandidate p2), (VwW.of 600048 tySPair e670)] fun r680 =>
       .opr 25003 (Rule.look2 (mt := 90) (kt := 91) (et := 3) (z := 1114370) (ty := tySEnt90) (p := (fun x => ((decide (r680.a0 = x.fk.a0)) && ((decide (r680.a1 = x.fk.a1)) && true)))) (kc := [.str r680.a0, .str r680.a1]) (.tmp 109) (.tmp 110) 111 93 true l678.1 (.int .i64 0) (.int .i64 (mlook l678.1 (fun x => ((decide (r680.a0 = x.fk.a0)) && ((decide (r680.a1 = x.fk.a1)) && true))) (fun x => x.fv) 0)) ⟨by kernel_rfl, by kernel_rfl, by kernel_rfl, fun _ => by kernel_rfl⟩ (by kernel_rfl) (mlook_map _ _ (fun x : SEnt90 => x.fv) 0 (V.int .i64))) fun _ =>
       .cnd 26 [131]
       (.br 26004 (!(l678.1.findIdx? (fun x => ((decide (r680.a0 = x.fk.a0)) && ((decide (r680.a1 = x.fk.a1)) && true)))).isSome)
        (.done true)
        (.view 26006 (s38 (SPlanner.mk (SList.mk p0 p1 p2 e670)) x679) [(VwW.of 700062 tySCandidate p1), (VwW.of 700063 tySCandidate p2), (VwW.of 600048 tySPair e670)] fun r681 =>
         .chk 26014 (decide (0 ≤ (mlook l678.1 (fun x => ((decide (r680.a0 = x.fk.a0)) && ((decide (r680.a1 = x.fk.a1)) && true))) (fun x => x.fv) 0)) && decide ((mlook l678.1 (fun x => ((decide (r680.a0 = x.fk.a0)) && ((decide (r680.a1 = x.fk.a1)) && true))) (fun x => x.fv) 0) < (e670.length : Int))) (.row 26015 tySPair e670 (0 + (mlook l678.1 (fun x => ((decide (r680.a0 = x.fk.a0)) && ((decide (r680.a1 = x.fk.a1)) && true))) (fun x => x.fv) 0).toNat) true fun x682 =>
         .view 26016 (s38 (SPlanner.mk (SList.mk p0 p1 p2 e670)) x682) [(VwW.of 700062 tySCandidate p1), (VwW.of 700063 tySCandidate p2), (VwW.of 600048 tySPair e670)] fun r683 =>
         .done (decide (r681 < r683)))))
       (fun (c684 : Bool) => [.bool c684]) fun c684 =>
       .br 0 c684
       (.opr 27004 (Rule.put (mt := 90) (kt := 91) (et := 3) (z := 1114370) (ty := tySEnt90) (p := (fun x => ((decide (r680.a0 = x.fk.a0)) && ((decide (r680.a1 = x.fk.a1)) && true)))) (kc := [.str r680.a0, .str r680.a1]) (.tmp 132) (.tmp 133) (.tmp 134) 93 l678.1 (SEnt90.mk r680 l678.2) [.int .i64 l678.2] ⟨by kernel_rfl, by kernel_rfl, by kernel_rfl, fun _ => by kernel_rfl⟩ (by rfl) (by kernel_rfl) (by kernel_rfl) (by decide) (by decide)) fun _ =>
        .done (.inl ((mput l678.1 (fun x => ((decide (r680.a0 = x.fk.a0)) && ((decide (r680.a1 = x.fk.a1)) && true))) (SEnt90.mk r680 l678.2)), (wi64 (l678.2 + 1)))))
       (.done (.inl (l678.1, (wi64 (l678.2 + 1)))))))
      (.done (.inr l678.1)))
     ([], 0))
    (fun (e685 : (List SEnt90)) => Ext.of (.exit 4) [(6, .ptr 6 0 0), (7, .int .i64 0), (8, .ptr 700061 0 0), (14, .mp 93)] [(6, ⟨4, true, [[.bool false, .nilsl, .nilsl, .nilsl]]⟩), (700061, ⟨4, true, [[.bool p0, .ref 700062 0 p1.length, .ref 700063 0 p2.length, .ref 600048 0 e670.length]]⟩)] [BT.of 93 tySEnt90 1114370 e685 true, BT.of 600048 tySPair 4 e670 true, BT.of 700062 tySCandidate 8 p1 true, BT.of 700063 tySCandidate 8 p2 true] (by rfl))
    (fun e685 =>
     .gh 1 (.ren 600048 700064) (.gh 1 (.ren 93 700065) (.sub (subWait p0 p1 p2 e670.length e685 e670) fun r686 =>
     .gh 0 (.share (VwW.of 700062 tySCandidate p1) 1) (.gh 0 (.share (VwW.of 700063 tySCandidate p2) 1) (.gh 0 (.share (VwW.part 700064 tySPair r686 e670.length) 1) (.done (0, p0, p1, p2, (r686.take e670.length))))))))))))))))))
theorem k11_1 (p0 : Bool) (p1 : (List SCandidate)) (p2 : (List SCandidate)) : FnB Tryz.prog GG [0, 1, 2, 6, 7, 8, 9, 10, 11, 13, 14, 15, 16, 17, 18, 19, 21, 29, 38, 49, 50, 58, 59, 60, 61, 70, 75, 98, 99, 100, 101, 131, 139] Tryz.f11 [.ref 1000000 0 p1.length, .ref 1000001 0 p2.length, .bool p0] (Ext.of .normal (argTs [.ref 1000000 0 p1.length, .ref 1000001 0 p2.length, .bool p0]) [] [BT.of 1000000 tySCandidate 8 p1 true, BT.of 1000001 tySCandidate 8 p2 true] (by rfl)) (g11_1 p0 p1 p2) (fun (r : Int × Bool × (List SCandidate) × (List SCandidate) × (List SPair)) => .tup [.agg [.bool r.2.1, .sl false 8 (List.map tySCandidate.c r.2.2.1), .sl false 8 (List.map tySCandidate.c r.2.2.2.1), .sl false 4 (List.map tySPair.c r.2.2.2.2)], .int .i64 r.1]) (fun (_ : Int × Bool × (List SCandidate) × (List SCandidate) × (List SPair)) => Ext.of .normal [] [] [] (by rfl)) := by unfold FnB; kernel_rfl
noncomputable def s11_1 (p0 : Bool) (p1 : (List SCandidate)) (p2 : (List SCandidate)) : EV.Spec Tryz.prog GG (Int × Bool × (List SCandidate) × (List SCandidate) × (List SPair)) := .ofFnB 11 [] mixed Tryz.func11 rfl (fun _ => rfl) (k11_1 p0 p1 p2)
noncomputable def g27  : TT (SList × Int) :=
 .call 1001 (s58 1 1 2) [] [] fun r641 =>
 .call 1002 (s58 2 1 1) [] [] fun r642 =>
 .call 1004 (s58 9 9 3) [] [] fun r643 =>
 .call 1006 (s11_1 true [r641, r642] [r643]) [(1000000, 4), (1000001, 6)] [] fun r687 =>
 .done ((SList.mk r687.2.1 r687.2.2.1 r687.2.2.2.1 r687.2.2.2.2), r687.1)
theorem k27  : FnD Tryz.prog GG [0, 1] Tryz.f27 [] (g27) (fun r => .tup [.agg [.bool r.1.fControlling, .sl false 8 (List.map tySCandidate.c r.1.fLocals), .sl false 8 (List.map tySCandidate.c r.1.fRemotes), .sl false 4 (List.map tySPair.c r.1.fPairs)], .int .i64 r.2]) := by unfold FnD; kernel_rfl
noncomputable def s27  : EV.Spec Tryz.prog GG (SList × Int) := .ofFn 27 mixed Tryz.func27 (k27)
end Go.Proofs.YtioobnkmohikjaaGreatDoor
namespace Go.Proofs.YtioobnkmohikjaaGreatDoor
open Go Go.EV
set_option maxRecDepth 100000
noncomputable def g7  : TT (Bool) :=
 .call 1001 s27 [] [] fun r688 =>
 .call 2002 (s17 r688.1) [] [] fun r689 =>
 .call 3002 (s23 r688.1 0 2) [] [] fun r690 =>
 .call 4002 (s17 r690.1) [] [] fun r691 =>
 .call 5002 (s21 r688.1) [] [] fun r692 =>
 .call 6002 (s19 r688.1) [] [] fun r693 =>
 .cnd 7 [0]
 (.br 7004 (r688.2 == 0)
  (.br 7010 ((mlen tySPair r688.1.fPairs) == 2)
   (.call 7011 (s28 r688.1 0 0 0 1) [] [] fun r694 =>
    .br 7014 r694
    (.call 7015 (s28 r688.1 1 1 0 1) [] [] fun r695 =>
     .br 7018 r695
     (.br 7022 (r689.2 == 0)
      (.br 7026 (r689.1 == 0)
       (.br 7030 (r690.2 == 0)
        (.br 7034 (r691.2 == 0)
         (.br 7038 (r691.1 == 1)
          (.br 7042 (r692.2 == 0)
           (.br 7047 (!r692.1.fControlling)
            (.br 7051 (r693.2 == 0)
             (.br 7055 (!r693.1)
              (.call 7056 (s16 r688.1) [] [] fun r696 =>
               .br 7060 (r696 == 0)
               (.view 7063 (s16 (SList.mk false [] [] [(SPair.mk 0 0 0 0)])) [] fun r697 =>
                .done (r697 == 100))
               (.done false))
              (.done false))
             (.done false))
            (.done false))
           (.done false))
          (.done false))
         (.done false))
        (.done false))
       (.done false))
      (.done false))
     (.done false))
    (.done false))
   (.done false))
  (.done false))
 (fun (c698 : Bool) => [.bool c698]) fun c698 =>
 .done c698
theorem k7  : FnD Tryz.prog GG [0, 1, 2, 3, 4, 5, 6, 7, 8, 9, 10, 11, 12] Tryz.f7 [] (g7) (fun r => .bool r) := by unfold FnD; kernel_rfl
noncomputable def s7  : EV.Spec Tryz.prog GG (Bool) := .ofFn 7 mixed Tryz.func7 (k7)
end Go.Proofs.YtioobnkmohikjaaGreatDoor
namespace Go.Proofs.YtioobnkmohikjaaGreatDoor
open Go Go.EV
set_option maxRecDepth 100000
end Go.Proofs.YtioobnkmohikjaaGreatDoor
