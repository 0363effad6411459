/- Guided execution: the executor is right: if what is found is what the guide says, the function's body comes to what the guide is worth; no conditions but that the program follows Go's mixed orders.
   The value-level logic: the world turned in a place where no cells lie (a loop's record, a block for deferred calls); no conditions.
   Guided execution: the executor is right, ended; a function's contract from its guide; no conditions but that the program follows Go's mixed orders.
   Guided execution: short names used by printed guides; no conditions.
   The value-level logic: two frames at work in turn on one heap (an iterator, and the function that ranges over it): what each leaves of the other's; no conditions.
   The value-level logic: a call of yield: one round of the loop of the function that lies suspended; no conditions.
   The value-level logic: a range over a function: the iterator is walked with the function that ranges lying suspended; no conditions.
   The value-level logic: triples for an iterator's code, the function that ranges lying suspended; no conditions.
   Guided execution: a piece of code by itself; a function's contract from a triple of its body in its own frame; no conditions but that the program follows Go's mixed orders.
   The value-level logic: all blocks renamed to outer names, and back; no conditions.
   The value-level logic: a slice told as data is compared with nil: both answers are gone through; no conditions. -/
import Derived.Test.YtdiagiflihpidaaDoorA5
import Derived.Test.YtdiagiflihpidaaDoorA2
import Derived.RangeFuncRecord
import Derived.KernelRfl

namespace Go.EV
open Go

section
variable {P : Program} {G : Nat → Option (List V)}

/-- What holds at an exit, from a state on. -/
def Rel (_P : Program) (G : Nat → Option (List V)) (Q : Exit → St → Prop) (e : Exit) (st : St) : Prop :=
  ∀ (fx : Fx) (γ : Gh) (a : Act) (w : World), Sim G γ st a.tmps w → a.defers = fx.ds → Lift G fx γ st w Q e a w

theorem Rel.of {Q : Exit → St → Prop} {e : Exit} {st : St} (h : Q e st) : Rel P G Q e st := fun fx γ _ w hs hd => ⟨st, γ, hs, ⟨.refl γ w, .refl hs.u⟩, .of hd, h⟩

theorem Rel.mono {Q Q' : Exit → St → Prop} {e e' : Exit} {st : St} (h : Rel P G Q e st) (hq : ∀ s, Q e s → Q' e' s) : Rel P G Q' e' st := fun fx γ a w hs hd => by
  obtain ⟨st', γ', h1, h2, h3, h4⟩ := h fx γ a w hs hd
  exact ⟨st', γ', h1, h2, h3, hq _ h4⟩

theorem Rel.forget {Q : Exit → St → Prop} {e : Exit} {st st' : St} (f : Forget st st') (h : Rel P G Q e st') : Rel P G Q e st := fun fx γ a w hs hd =>
  (h fx γ a w (f.sim hs) hd).grow ⟨.refl γ w, f.pin hs⟩

theorem Rel.ghost {Q : Exit → St → Prop} {e : Exit} {st st' : St} (g : Gst G st st') (h : Rel P G Q e st') : Rel P G Q e st := fun fx γ a w hs hd => by
  obtain ⟨γ', h1, h2, h3⟩ := g γ a.tmps w hs
  exact (h fx γ' a w h1 hd).grow ⟨h2, h3⟩

theorem TV.rel {c : Code} {st : St} {Q Q' : Exit → St → Prop} (h : TV P G c st Q') (hq : ∀ e s, Q' e s → Rel P G Q e s) : TV P G c st Q := fun fx γ a w hs hd =>
  wpIn_mono (h fx γ a w hs hd) fun e a' w' hl => by
    obtain ⟨st', γ', h1, h2, h3, h4⟩ := hl
    exact (hq e st' h4 ⟨fx.ro, a'.defers, fx.mx⟩ γ' a' w' h1 rfl).grow2 h2 h3

theorem TV.skipR {st : St} {Q : Exit → St → Prop} (h : Rel P G Q .normal st) : TV P G .skip st Q := fun fx γ a w hs hd => wpIn_skip (h fx γ a w hs hd)
theorem TV.labelR {l : Nat} {st : St} {Q : Exit → St → Prop} (h : Rel P G Q .normal st) : TV P G (.label l) st Q := fun fx γ a w hs hd => wpIn_label (h fx γ a w hs hd)
theorem TV.exitR {id : Nat} {st : St} {Q : Exit → St → Prop} (h : Rel P G Q (.exit id) st) : TV P G (.exit id) st Q := fun fx γ a w hs hd => wpIn_exit (h fx γ a w hs hd)
theorem TV.retR {st : St} {Q : Exit → St → Prop} (h : Rel P G Q .ret st) : TV P G .ret st Q := fun fx γ a w hs hd => wpIn_ret (h fx γ a w hs hd)

def TVin (P : Program) (G : Nat → Option (List V)) (c : Code) (st : St) (Q : Exit → St → Prop) : Prop :=
  ∀ (fx : Fx) (γ : Gh) (a : Act) (w : World), Sim G γ st a.tmps w → a.defers = fx.ds → CWin fx.ro P c (Lift G fx γ st w Q) a w

theorem TV.lpAux {c : Code} {st : St} {Q : Exit → St → Prop} (h : TV P G c st (thenV (fun s => TVin P G c s Q) Q)) : ∀ (fx : Fx) (γ : Gh) (a : Act) (w : World), Sim G γ st a.tmps w → a.defers = fx.ds → CW fx.ro P c (Exit.then (CWin fx.ro P c (Lift G fx γ st w Q)) (Lift G fx γ st w Q)) a w := fun fx γ a w hs hd =>
  wpIn_mono (h fx γ a w hs hd) fun e a' w' hl => by
    obtain ⟨st', γ', h1, h2, h3, h4⟩ := hl
    cases e with
    | normal => exact cwIn_mono (h4 ⟨fx.ro, a'.defers, fx.mx⟩ γ' a' w' h1 rfl) fun _ _ _ hl => hl.grow2 h2 h3
    | _ => exact ⟨st', γ', h1, h2, h3, h4⟩

theorem TV.loopOnce {c : Code} {st : St} {Q : Exit → St → Prop} (h : TV P G c st (thenV (fun s => TVin P G c s Q) Q)) : TV P G (.loop c) st Q := fun fx γ a w hs hd => cw_loop_once (TV.lpAux h fx γ a w hs hd)
theorem TVin.once {c : Code} {st : St} {Q : Exit → St → Prop} (h : TV P G c st (thenV (fun s => TVin P G c s Q) Q)) : TVin P G c st Q := fun fx γ a w hs hd => cwIn_once (TV.lpAux h fx γ a w hs hd)

def noGoto (Q : Exit → St → Prop) : Exit → St → Prop
  | .goto _, _ => False
  | e, st => Q e st

/-- What comes behind a code, by frames. -/
def Qx (P : Program) (G : Nat → Option (List V)) (Q : Exit → St → Prop) : List Kf → Exit → St → Prop
  | [] => Q
  | .seq y :: K => thenV (fun st => TV P G y st (Qx P G Q K)) (Qx P G Q K)
  | .block id :: K => inBlockV id (Qx P G Q K)
  | .scope :: K => noGoto (Qx P G Q K)
  | .lp c :: K => thenV (fun st => TVin P G c st (Qx P G Q K)) (Qx P G Q K)

/-- What a guide is to come to. -/
def goal (P : Program) {ρ : Type} (F : Fin' ρ) (r : ρ) (n : Nat) : Exit → St → Prop :=
  match F with
  | .fn rs res outs => fun e s => ∃ v0, coeV 8 (res r) v0 = res r ∧ Done P rs v0 (ofL (outs r)) e s
  | .mid E => extGoal (E r) n
  | .reg _ _ => fun _ _ => False
  | .rnd S E => match r with
    | .inl y => fun e s => isNormal e = true ∧ extGoal (S y) n e s
    | .inr z => fun e s => isNormal e = false ∧ extGoal (E z) n e s

def Post (P : Program) (G : Nat → Option (List V)) (Q : Exit → St → Prop) (cur : Code ⊕ Exit) (K : List Kf) (st : St) : Prop :=
  match cur with
  | .inl c => TV P G c st (Qx P G Q K)
  | .inr e => Rel P G (Qx P G Q K) e st

def RecOk (rec : Rec P G) : Prop :=
  ∀ (ρ : Type) (F : Fin' ρ) (g : T P G ρ) (cur : Code ⊕ Exit) (K : List Kf) (d : D) (r : ρ), d.Ok → rec ρ F g cur K d = g.expect F → g.run = some r → Post P G (goal P F r d.n) cur K d.st

section
variable {kp : List Nat} {rec : Rec P G} (hm : P.follows .mixedOrders = true) (hrec : RecOk rec) {ρ : Type} {F : Fin' ρ} {g : T P G ρ} {K : List Kf} {d : D} {r : ρ}

theorem finExt_spec {e : Exit} {x : Ext} (h : finExt e x d = extFin x.ex x) : extGoal x d.n e d.st := by
  simp only [finExt, extFin, C.fin.injEq, true_and, Option.some.injEq] at h
  exact ⟨h.1, rfl, h.2.1, h.2.2⟩

theorem fin_spec {e : Exit} (h : fin P G F g e d = g.expect F) (hr : g.run = some r) : goal P F r d.n e d.st := by
  cases g <;> simp only [fin] at h <;> try exact absurd h (expect_ns _ _ _)
  case done r' =>
    simp only [T.run, Option.some.injEq] at hr
    subst hr
    cases F with
    | fn rs res outs =>
      have key : (e = .normal ∨ e = .ret) → C.fin ((resultsV P d.st rs).map (coeV 8 (res r'))) none [] ((outs r').map fun p => (p.1, d.st.b p.1)) = T.expect (Fin'.fn rs res outs) (T.done (P := P) (G := G) r') → goal P (Fin'.fn rs res outs) r' d.n e d.st := by
        intro he h
        simp only [T.expect, C.fin.injEq, true_and] at h
        obtain ⟨v0, h0, h1⟩ := Option.map_eq_some_iff.1 h.1
        refine ⟨v0, h1, he, h0, fun b k hk => ?_⟩
        have hmem := ofL_some hk
        have := List.map_inj_left.1 h.2 (b, k) hmem
        simp only [Prod.mk.injEq, true_and] at this
        exact this
      simp only at h
      split at h
      · exact key (.inl rfl) h
      · exact key (.inr rfl) h
      · simp [T.expect] at h
    | mid E => exact finExt_spec (by simpa [T.expect] using h)
    | reg ts E => exact absurd h (expect_ns _ _ _)
    | rnd S E =>
      cases r' with
      | inl y =>
        simp only at h
        split at h
        · rename_i hn; exact ⟨hn, finExt_spec (by simpa [T.expect] using h)⟩
        · exact absurd h (expect_ns _ _ _)
      | inr z =>
        simp only at h
        split at h
        · exact absurd h (expect_ns _ _ _)
        · rename_i hn; exact ⟨hn, finExt_spec (by simpa [T.expect] using h)⟩

theorem extD_ok {x : Ext} {n : Nat} (hok : x.ok = true) : (x.D n).Ok := by
  have hok' := hok
  simp only [Ext.ok, Bool.and_eq_true, List.all_eq_true] at hok'
  refine D.Ok.of_lists (fun p hp => hok'.1 p hp) (fun p hp => ⟨?_, fun r hr c hc => ?_⟩) (fun b hb k hk => ?_)
  · simp only [okU, Ext.D, Ext.us, Bool.or_eq_true, List.contains_eq_mem, decide_eq_true_eq]
    exact .inl (List.mem_map.2 ⟨p, hp, rfl⟩)
  · have := hok'.2 p hp
    simp only [blkOkB, Bool.or_eq_true, List.contains_eq_mem, decide_eq_true_eq, List.all_eq_true] at this
    rcases this with h1 | h1
    · exact dcell_okV (x.dat p hp h1 r hr c hc) _
    · exact h1 r hr c hc
  · unfold D.st at hk
    rw [stOf_b] at hk
    split at hk
    · rename_i p hp
      simp only [Option.some.injEq] at hk
      subst hk
      obtain ⟨h1, h2⟩ := find_mem hp
      exact x.dat p h1 (by rw [h2]; exact hb)
    · simp at hk

theorem isNormal_false {e : Exit} (h : isNormal e = false) : e ≠ .normal := by cases e <;> simp_all [isNormal]
theorem isNormal_true {e : Exit} (h : isNormal e = true) : e = .normal := by cases e <;> simp_all [isNormal]

theorem thenV_other {A : St → Prop} {Q : Exit → St → Prop} {e : Exit} (h : e ≠ .normal) (s : St) (hq : Q e s) : thenV A Q e s := by
  cases e <;> first | exact absurd rfl h | exact hq

include hrec in
theorem sxE_spec {e : Exit} (hd : d.Ok) (h : sxE rec F g e K d = g.expect F) (hr : g.run = some r) : Rel P G (Qx P G (goal P F r d.n) K) e d.st := by
  unfold sxE at h
  split at h
  · exact Rel.of (fin_spec h hr)
  · rename_i y K
    split at h
    · rename_i hn
      have := hrec _ _ _ _ _ _ _ hd h hr
      rw [isNormal_true hn]
      exact Rel.of (show TV P G y d.st _ from this)
    · rename_i hn
      have : Rel P G (Qx P G (goal P F r d.n) K) e d.st := hrec _ _ _ _ _ _ _ hd h hr
      exact this.mono fun s hq => thenV_other (isNormal_false hn) s hq
  · rename_i id K
    split at h
    · rename_i id'
      split at h
      · rename_i he
        have : Rel P G (Qx P G (goal P F r d.n) K) .normal d.st := hrec _ _ _ _ _ _ _ hd h hr
        refine this.mono fun s hq => ?_
        show inBlockV id _ (.exit id') s
        simp only [inBlockV]
        rw [if_pos (by simpa using he)]; exact hq
      · rename_i he
        have : Rel P G (Qx P G (goal P F r d.n) K) (.exit id') d.st := hrec _ _ _ _ _ _ _ hd h hr
        refine this.mono fun s hq => ?_
        show inBlockV id _ (.exit id') s
        simp only [inBlockV]
        rw [if_neg (by simpa using he)]; exact hq
    · rename_i he
      have : Rel P G (Qx P G (goal P F r d.n) K) e d.st := hrec _ _ _ _ _ _ _ hd h hr
      refine this.mono fun s hq => ?_
      show inBlockV id _ e s
      cases e <;> first | exact absurd rfl (he _) | exact hq
  · rename_i K
    split at h
    · exact absurd h (expect_ns _ _ _)
    · rename_i he
      have : Rel P G (Qx P G (goal P F r d.n) K) e d.st := hrec _ _ _ _ _ _ _ hd h hr
      refine this.mono fun s hq => ?_
      show noGoto _ e s
      cases e <;> first | exact absurd rfl (he _) | exact hq
  · rename_i c K
    split at h
    · rename_i hn
      have := hrec _ _ _ _ _ _ _ hd h hr
      rw [isNormal_true hn]
      exact Rel.of (show TVin P G c d.st _ from TVin.once this)
    · rename_i hn
      have : Rel P G (Qx P G (goal P F r d.n) K) e d.st := hrec _ _ _ _ _ _ _ hd h hr
      exact this.mono fun s hq => thenV_other (isNormal_false hn) s hq

include hrec hm in
theorem sxRg_spec {id : Nat} {ops : Array Oper} {draw : Bool} (hd : d.Ok) (h : sxRg kp rec F id ops draw g K d = g.expect F) (hr : g.run = some r) : TV P G (.region id ops draw) d.st (Qx P G (goal P F r d.n) K) := by
  obtain ⟨g', s, p, sy', x1, x2, x3, x4, x5, x6⟩ := region_sound h hr hd.sy
  split at x1
  · rename_i hdr
    obtain ⟨d', y1, y2, y3, y4⟩ := regEnd_spec x1 (fun j => expect_ns F g' j) hd x5 x3
    have hq : Rel P G (Qx P G (goal P F r d'.n) K) .normal d'.st := hrec _ _ _ _ _ _ _ y2 y1 x2
    rw [y4] at hq
    refine TV.rel (Q' := fun e s' => e = .normal ∧ s' = s) (TV.plan hm hdr x5 x6 ⟨rfl, rfl⟩) fun e s' he => ?_
    obtain ⟨rfl, rfl⟩ := he
    exact hq.forget y3
  · exact absurd x1 (expect_ns _ _ _)

theorem regFin_spec {ops : Array Oper} {draw : Bool} {ts : List Nat} {ε : Type} {E : ε → List V} {first : T P G ε} {e : ε} {s : St} {p : Plan} (h : regFin P G ops draw ts d first s p = first.expect (.reg ts E)) (hr : first.run = some e) :
    ts.map s.t = E e ∧ (!draw || drawOk ops p) = true ∧ (∀ b, b ∈ p.wbs → ∀ x, x ∈ d.bs → x.1 ≠ b) ∧ ∀ t, t ∈ p.wts → t ∈ ops.toList.filterMap (·.dst) := by
  unfold regFin at h
  split at h
  · rename_i r'
    simp only [T.run, Option.some.injEq] at hr
    subst hr
    split at h
    · rename_i hc
      simp only [T.expect, C.fins.injEq] at h
      simp only [Bool.and_eq_true, List.all_eq_true, Bool.not_eq_true', List.any_eq_false, beq_iff_eq] at hc
      exact ⟨h, hc.1, fun b hb x hx => hc.2.1 b hb x hx, fun t ht => by simpa using hc.2.2 t ht⟩
    · exact absurd h (expect_ns _ _ _)
  · simp [T.run] at hr
  · exact absurd h (expect_ns _ _ _)

theorem zip_find {ts : List Nat} {vs : List V} {s : St} (h : ts.map s.t = vs) : ∀ p, p ∈ ts.zip vs → s.t p.1 = p.2 := by
  subst h
  intro p hp
  induction ts with
  | nil => simp at hp
  | cons t ts ih =>
    simp only [List.map_cons, List.zip_cons_cons, List.mem_cons] at hp
    rcases hp with rfl | hp
    · rfl
    · exact ih hp

include hrec hm in
theorem sxR_spec {id : Nat} {ops : Array Oper} {draw : Bool} (hd : d.Ok) (h : sxR kp rec F id ops draw g K d = g.expect F) (hr : g.run = some r) : TV P G (.region id ops draw) d.st (Qx P G (goal P F r d.n) K) := by
  unfold sxR at h
  split at h
  · rename_i ε id' ts first E k
    split at h
    · simp only [T.expect, C.bind.injEq, heq_eq_eq, true_and] at h
      obtain ⟨h1, h2⟩ := h
      simp only [T.run] at hr
      split at hr
      · rename_i e he
        have h3 := congrFun h2 e
        split at h3
        · rename_i hok
          simp only [Bool.and_eq_true, List.all_eq_true, beq_iff_eq] at hok
          obtain ⟨g', s, p, sy', x1, x2, x3, x4, x5, x6⟩ := region_sound h1 he hd.sy
          obtain ⟨y1, y2, y3, y4⟩ := regFin_spec x1 x2
          have tmp : ∀ i, ¬ i ∈ ops.toList.filterMap (·.dst) → s.t i = d.st.t i := fun i hi => by rw [x5]; exact along_t_other (fun hm => hi (y4 i hm)) _
          have fg : Forget s (cndD ops ts d (E e)).st := by
            refine ⟨?_, fun i => ?_, fun b => ?_, fun b hb => okU_top hb⟩
            · rw [x5, along_n]; rfl
            · have e0 : (cndD ops ts d (E e)).st.t i = (match (ts.zip (E e) ++ d.ts.filter fun x => !(ops.toList.filterMap (·.dst)).contains x.1 && !ts.contains x.1).find? (fun p => p.1 == i) with | some p => p.2 | none => .undef) := rfl
              rw [e0, List.find?_append]
              cases hf : (ts.zip (E e)).find? (fun p => p.1 == i) with
              | some x =>
                obtain ⟨z1, z2⟩ := find_mem hf
                have z3 := zip_find y1 x z1
                refine .inr ⟨by simp only [Option.some_or]; rw [← z2]; exact z3.symm, ?_⟩
                rw [← z2, z3]
                exact hok.1 x.2 (List.of_mem_zip z1).2
              | none =>
                simp only [Option.none_or]
                cases hw : (!(ops.toList.filterMap (·.dst)).contains i && !ts.contains i) with
                | false => rw [find_filter_none (q := fun j => !(ops.toList.filterMap (·.dst)).contains j && !ts.contains j) hw]; exact .inl rfl
                | true =>
                  rw [find_filter (q := fun j => !(ops.toList.filterMap (·.dst)).contains j && !ts.contains j) hw]
                  simp only [Bool.and_eq_true, Bool.not_eq_true', List.contains_eq_mem, decide_eq_false_iff_not] at hw
                  have e1 := tmp i hw.1
                  exact .inr ⟨by rw [e1]; rfl, by rw [e1]; exact hd.tmp i⟩
            · have e0 : (cndD ops ts d (E e)).st.b b = d.st.b b := rfl
              rw [e0]
              by_cases hw : b ∈ p.wbs
              · refine .inl ?_
                unfold D.st
                rw [stOf_b]
                have : d.bs.find? (fun x => x.1 == b) = none := List.find?_eq_none.2 fun x hx hxe => y3 b hw x hx (by simpa using hxe)
                rw [this]
              · have e1 : s.b b = d.st.b b := by rw [x5]; exact along_b_other hw _
                refine .inr ⟨by rw [e1], fun k hk => ?_⟩
                rw [e1] at hk
                exact hd.blk hk
          have ok' : (cndD ops ts d (E e)).Ok := D.Ok.of_forget fg hd.sy
          have hq : Rel P G (Qx P G (goal P F r d.n) K) .normal (cndD ops ts d (E e)).st := hrec _ _ _ _ _ (cndD ops ts d (E e)) _ ok' h3 hr
          refine TV.rel (Q' := fun e s' => e = .normal ∧ s' = s) (TV.plan hm y2 x5 x6 ⟨rfl, rfl⟩) fun e s' he => ?_
          obtain ⟨rfl, rfl⟩ := he
          exact hq.forget fg
        · exact absurd h3 (expect_ns _ _ _)
      · simp at hr
    · exact sxRg_spec hm hrec hd h hr
  · exact sxRg_spec hm hrec hd h hr

end
end
end Go.EV

namespace Go.EV
open Go

/-- Where cells lay, they lie; what else there is may have turned. -/
structure CellsSame (w w1 : World) : Prop where
  size : w.heap.size ≤ w1.heap.size
  same : ∀ (B : Nat) (cs : Array Value) (e : TypeId) (fz : Nat × Nat), w.heap[B]? = some (.cells cs e fz) → w1.heap[B]? = some (.cells cs e fz)

theorem CellsSame.refl (w : World) : CellsSame w w := ⟨Nat.le_refl _, fun _ _ _ _ h => h⟩
theorem CellsSame.trans {a b c : World} (h : CellsSame a b) (k : CellsSame b c) : CellsSame a c := ⟨Nat.le_trans h.size k.size, fun B cs e fz hb => k.same B cs e fz (h.same B cs e fz hb)⟩

theorem cellAt_block {w : World} {B o : Nat} {v : Value} (h : cellAt w B o = some v) : ∃ cs e fz, w.heap[B]? = some (.cells cs e fz) := by
  unfold cellAt World.cell? at h
  cases hb : w.heap[B]? with
  | none => simp [hb] at h
  | some x => cases x <;> simp_all

theorem CellsSame.cell {w w1 : World} (h : CellsSame w w1) {B o : Nat} {v : Value} (hc : cellAt w B o = some v) : cellAt w1 B o = some v := by
  obtain ⟨cs, e, fz, hb⟩ := cellAt_block hc
  have := h.same B cs e fz hb
  unfold cellAt World.cell? at hc ⊢
  simp only [hb] at hc
  simp only [this]
  exact hc

theorem CellsSame.room {w w1 : World} (h : CellsSame w w1) {B n : Nat} (hr : RoomAt w B n) : RoomAt w1 B n := by
  obtain ⟨cs, e, fz, h1, h2⟩ := hr
  exact ⟨cs, e, fz, h.same B cs e fz h1, h2⟩

theorem CellsSame.rep {w w1 : World} (h : CellsSame w w1) {γ : Gh} {bs : Nat → Option Blk} {u : Nat → Bool} {c : V} {v : Value} (hr : Rep γ w bs u c v) : Rep γ w1 bs u c v := by
  induction hr with
  | data h1 => exact .data (h1.mono fun B o v h1 h2 => ⟨h1, h.cell h2⟩)
  | undef v => exact .undef v
  | ref b off len B o cap k h1 h2 h3 h4 h5 => exact .ref b off len B o cap k h1 h2 h3 h4 (h.room h5)
  | refE b off B k h1 h2 => exact .refE b off B k h1 h2
  | refN b off k h1 h2 => exact .refN b off k h1 h2
  | deadRef b off len v h1 h2 h3 => exact .deadRef b off len v h1 h2 h3
  | ptr b i off B o k h1 h2 => exact .ptr b i off B o k h1 h2
  | deadPtr b i off v h1 h2 h3 => exact .deadPtr b i off v h1 h2 h3
  | fn f first captured fs cs h1 h2 _ _ ih1 ih2 => exact .fn f first captured fs cs h1 h2 ih1 ih2
  | agg cells vs h1 _ ih => exact .agg cells vs h1 ih
  | tup cells vs h1 _ ih => exact .tup cells vs h1 ih

theorem CellsSame.right {w w1 : World} (h : CellsSame w w1) {γ : Gh} {t : Owner} {c : V} {v : Value} (hr : Right γ w t c v) : Right γ w1 t c v := by
  unfold Right at hr ⊢
  split at hr
  · rcases hr with hr | ⟨h1, cs, e, h2, h3⟩
    · exact .inl hr
    · exact .inr ⟨h1, cs, e, h.same _ _ _ _ h2, h3⟩
  · trivial

theorem CellsSame.blkOk {w w1 : World} (h : CellsSame w w1) {γ : Gh} {bs : Nat → Option Blk} {u : Nat → Bool} {b : Nat} {k : Blk} (hb : BlkOk γ w bs u b k) : BlkOk γ w1 bs u b k := by
  rcases hb with h0 | ⟨B, o, cs, e, a1, a2, a3, a4, a5, a6, a7, a8⟩
  · exact .inl h0
  · refine .inr ⟨B, o, cs, e, a1, a2, h.same _ _ _ _ a3, a4, a5, fun i c hc => ?_, a7, a8⟩
    obtain ⟨x, b1, b2, b3, b4⟩ := a6 i c hc
    exact ⟨x, b1, h.rep b2, b3, h.right b4⟩

theorem CellsSame.sim {w w1 : World} (h : CellsSame w w1) {G : Nat → Option (List V)} {γ : Gh} {st : St} {tmps : Array Value} (hs : Sim G γ st tmps w) : Sim G γ st tmps w1 :=
  ⟨hs.n, fun i => h.rep (hs.t i), fun b k hk => h.blkOk (hs.b b k hk), hs.u, fun g cells hg => (hs.g g cells hg).mono fun B o v h1 h2 => ⟨h1, h.cell h2⟩, fun B x hx => Nat.lt_of_lt_of_le (hs.o B x hx) h.size⟩

/-- .. and where it lay from the start on. -/
theorem Grow.same {γ γ' : Gh} {w w1 w2 : World} (g : Grow γ w γ' w1) (h : CellsSame w1 w2) (hl : ∀ B, B < w.heap.size → w2.heap[B]? = w1.heap[B]?) (h1 : w2.os = w1.os) (h2 : w2.tape = w1.tape) (h3 : w2.output = w1.output) : Grow γ w γ' w2 where
  os := h1.trans g.os
  tape := h2.trans g.tape
  output := h3.trans g.output
  size := Nat.le_trans g.size h.size
  imm := fun B o v hB hc => h.cell (g.imm B o v hB hc)
  lim := g.lim
  free := fun B hB ho => by
    obtain ⟨a1, a2, a3⟩ := g.free B hB ho
    exact ⟨(hl B hB).trans a1, a2, a3⟩
  room := fun B cs e fz hc => by
    obtain ⟨cs', a1, a2⟩ := g.room B cs e fz hc
    exact ⟨cs', h.same _ _ _ _ a1, a2⟩

theorem CellsSame.put {w : World} {l : Nat} {o o' : Obj} (h : w.heap[l]? = some o) (hn : ∀ cs e fz, o ≠ .cells cs e fz) : CellsSame w (w.putObj l o') :=
  ⟨by simp, fun B cs e fz hb => by
    have hne : B ≠ l := fun e' => by subst e'; rw [h] at hb; simp only [Option.some.injEq] at hb; exact hn _ _ _ hb
    rw [World.putObj_heap_other hne]; exact hb⟩

theorem Grow.put {γ γ' : Gh} {w w1 : World} (g : Grow γ w γ' w1) {l : Nat} {o o' : Obj} (h : w1.heap[l]? = some o) (hn : ∀ cs e fz, o ≠ .cells cs e fz) (hl : w.heap.size ≤ l) : Grow γ w γ' (w1.putObj l o') :=
  g.same (.put h hn) (fun B hB => World.putObj_heap_other (by omega)) rfl rfl rfl

/-- A frame leaves with marks of ranges over functions alone. -/
theorem leaves_marks {P : Program} {fn : Func} {tmps : Array Value} {R : Ending → World → Prop} (I : World → Prop) (hI : ∀ w, I w → ∃ v, (results fn tmps).run P w = .ok v w ∧ R (.returned v) w) :
    ∀ (Ds : List Nat) (w : World), I w → Ds.Nodup → (∀ D, D ∈ Ds → w.heap[D]? = some (.deferred (some []))) → (∀ D w, D ∈ Ds → I w → w.heap[D]? = some (.deferred (some [])) → I (w.putObj D (.deferred none))) →
      LeavesInM (RF none) 0 P fn tmps R (Ds.map markD) .returning w
  | [], w, h, _, _, _ => hI w h
  | D :: Ds, w, h, hn, hd, hp => by
    refine ⟨by simp, .inl ⟨D, _, rfl, run_takeDeferred (hd D (by simp)), ?_⟩⟩
    have hn' := List.nodup_cons.1 hn
    refine leaves_marks I hI Ds _ (hp D w (by simp) h (hd D (by simp))) hn'.2 (fun E hE => ?_) fun E w hE => hp E w (by simp [hE])
    have hne : E ≠ D := fun e => hn'.1 (by rw [← e]; exact hE)
    rw [World.putObj_heap_other hne]
    exact hd E (by simp [hE])

end Go.EV

namespace Go.EV
open Go

section
variable {P : Program} {G : Nat → Option (List V)} {kp : List Nat} {rec : Rec P G} (hm : P.follows .mixedOrders = true) (hrec : RecOk rec) {ρ : Type} {F : Fin' ρ} {g : T P G ρ} {K : List Kf} {d : D} {r : ρ}

theorem TV.scopeN {c : Code} {st : St} {Q : Exit → St → Prop} (h : TV P G c st (noGoto Q)) : TV P G (.scope c) st Q :=
  (TV.scope h fun l s hs => hs.elim).mono fun e s hs => by
    cases e <;> first | exact hs.elim | exact hs

/-- A loop told by a family of states. -/
theorem loop_main {σ ε : Type} {S : σ → Ext} {body : σ → T P G (σ ⊕ ε)} {E : ε → Ext} {x : Code} {n : Nat} (hrec : RecOk rec)
    (hb : ∀ y, (match (S y).ok && isNormal (S y).ex with
          | true => rec _ (.rnd S E) (body y) (.inl x) [] ((S y).D n)
          | false => .stuck 69) = (body y).expect (.rnd S E))
    (e0 : ε) (m : Nat) (y0 : σ) (hit : iter (fun y => (body y).run) m y0 = some e0) : TV P G (.loop x) ((S y0).D n).st (extGoal (E e0) n) := by
  have okS : ∀ y, (S y).ok = true ∧ rec _ (.rnd S E) (body y) (.inl x) [] ((S y).D n) = (body y).expect (.rnd S E) := fun y => by
    have := hb y
    split at this
    · rename_i h
      simp only [Bool.and_eq_true] at h
      exact ⟨h.1, this⟩
    · exact absurd this (expect_ns _ _ _)
  refine TV.loop (fun m st => ∃ y, st = ((S y).D n).st ∧ iter (fun y => (body y).run) m y = some e0) (fun m st hI => ?_) (n := m) ⟨y0, rfl, hit⟩
  obtain ⟨y, rfl, hy⟩ := hI
  obtain ⟨s1, s3⟩ := okS y
  cases m with
  | zero => simp [iter] at hy
  | succ m =>
    have hy' : (match (body y).run with | none => none | some (.inl z) => iter (fun y => (body y).run) m z | some (.inr e) => some e) = some e0 := hy
    cases hrun : (body y).run with
    | none => rw [hrun] at hy'; simp at hy'
    | some z =>
      rw [hrun] at hy'
      cases z with
      | inl z =>
        simp only at hy'
        have key : TV P G x ((S y).D n).st (fun e s => isNormal e = true ∧ extGoal (S z) n e s) := hrec _ _ _ _ _ _ _ (extD_ok s1) s3 hrun
        obtain ⟨z1, _⟩ := okS z
        refine TV.rel key fun e s hg => ?_
        obtain ⟨g0, _, g2, g3, g4⟩ := hg
        have f := ext_ghost (G := G) (s := s) z1 g3 g4
        rw [g2] at f
        rw [isNormal_true g0]
        exact Rel.ghost f (Rel.of ⟨m, by omega, z, rfl, hy'⟩)
      | inr e =>
        simp only [Option.some.injEq] at hy'
        subst hy'
        have key : TV P G x ((S y).D n).st (fun e' s => isNormal e' = false ∧ extGoal (E e) n e' s) := hrec _ _ _ _ _ _ _ (extD_ok s1) s3 hrun
        exact key.mono fun e' s hg => thenV_other (isNormal_false hg.1) s hg.2

include hrec in
theorem sxN_spec {c : Code} (hd : d.Ok) (h : sxN rec F g c K d = g.expect F) (hr : g.run = some r) : TV P G c d.st (Qx P G (goal P F r d.n) K) := by
  unfold sxN at h
  split at h
  · rename_i o x y
    split at h
    · rename_i a' c' a b
      split at h
      · rename_i c hc
        simp only [T.expect, C.br.injEq] at h
        obtain ⟨rfl, h1, h2⟩ := h
        simp only [T.run] at hr
        refine TV.cond hc ?_
        cases c with
        | true => exact hrec _ _ _ _ _ _ _ hd h1 (by simpa using hr)
        | false => exact hrec _ _ _ _ _ _ _ hd h2 (by simpa using hr)
      · exact absurd h (expect_ns _ _ _)
    · rename_i k
      split at h
      · rename_i c hc
        split at h
        · refine TV.cond hc ?_
          exact hrec _ _ _ _ _ _ _ hd (by simpa [T.expect] using h) (by simpa [T.run] using hr)
        · exact absurd h (expect_ns _ _ _)
      · exact absurd h (expect_ns _ _ _)
    · rename_i k
      split at h
      · rename_i c hc
        split at h
        · refine TV.cond hc ?_
          exact hrec _ _ _ _ _ _ _ hd (by simpa [T.expect] using h) (by simpa [T.run] using hr)
        · exact absurd h (expect_ns _ _ _)
      · exact absurd h (expect_ns _ _ _)
    · exact absurd h (expect_ns _ _ _)
  · exact TV.block (hrec _ _ _ _ _ _ _ hd h hr)
  · exact TV.scopeN (hrec _ _ _ _ _ _ _ hd h hr)
  · rename_i x
    split at h
    · rename_i σ S body x0
      split at h
      · rename_i E
        split at h
        · simp only [T.expect, C.loop.injEq, heq_eq_eq, true_and] at h
          obtain ⟨h1, h2, h3⟩ := h
          simp only [T.run] at hr
          have hb := fun y => congrFun h3 y
          have s1 : (S x0).ok = true := by
            have := hb x0
            split at this
            · rename_i h; simp only [Bool.and_eq_true] at h; exact h.1
            · exact absurd this (expect_ns _ _ _)
          exact TV.ghost (ext_ghost (s := d.st) s1 h1 h2) (loop_main hrec hb r FUEL x0 hr)
        · exact absurd h (expect_ns _ _ _)
      · exact absurd h (expect_ns _ _ _)
    · exact TV.loopOnce (hrec _ _ _ _ _ _ _ hd h hr)
  · exact absurd h (expect_ns _ _ _)

include hrec in
theorem bind_spec {ε : Type} {E : ε → Ext} {E' : Ext} {e : ε} {first : T P G ε} {k : T P G ρ} {c : Code} (hd : d.Ok) (h1 : rec _ (.mid E) first (.inl c) [] d = first.expect (.mid E)) (he : first.run = some e) (hE : E e = E')
    (h3 : (match E'.ok with
      | true => rec ρ F k (.inr E'.ex) K (E'.D d.n)
      | false => .stuck 64) = k.expect F) (hr : k.run = some r) : TV P G c d.st (Qx P G (goal P F r d.n) K) := by
  subst hE
  split at h3
  · rename_i hok
    have key : TV P G c d.st (goal P (.mid E) e d.n) := hrec _ _ _ _ _ _ _ hd h1 he
    have hq : Rel P G (Qx P G (goal P F r d.n) K) (E e).ex ((E e).D d.n).st := hrec _ _ _ _ _ ((E e).D d.n) _ (extD_ok hok) h3 hr
    refine TV.rel key fun e' s hg => ?_
    obtain ⟨g1, g2, g3, g4⟩ := hg
    have f := ext_ghost (G := G) (s := s) hok g3 g4
    rw [g2] at f
    rw [g1]
    exact hq.ghost f
  · exact absurd h3 (expect_ns _ _ _)

include hrec in
theorem sxB_spec {c : Code} (hd : d.Ok) (h : sxB rec F g c K d = g.expect F) (hr : g.run = some r) : TV P G c d.st (Qx P G (goal P F r d.n) K) := by
  unfold sxB at h
  split at h
  · rename_i ε first E k
    simp only [T.expect, C.bind.injEq, heq_eq_eq, true_and] at h
    obtain ⟨h1, h2⟩ := h
    simp only [T.run] at hr
    split at hr
    · rename_i e he
      exact bind_spec hrec hd h1 he rfl (congrFun h2 e) hr
    · simp at hr
  · rename_i ε ζ first E E2 k k2
    simp only [T.expect, C.bind2.injEq, heq_eq_eq, true_and] at h
    obtain ⟨h1, h2, h3⟩ := h
    simp only [T.run] at hr
    split at hr
    · rename_i e he
      exact bind_spec hrec hd h1 he rfl (congrFun h2 e) hr
    · rename_i e he
      exact bind_spec hrec hd h1 he rfl (congrFun h3 e) hr
    · simp at hr
  · rename_i ε ζ η first E E2 E3 k k2 k3
    simp only [T.expect, C.bind3.injEq, heq_eq_eq, true_and] at h
    obtain ⟨h1, h2, h3, h4⟩ := h
    simp only [T.run] at hr
    split at hr
    · rename_i e he
      exact bind_spec hrec hd h1 he rfl (congrFun h2 e) hr
    · rename_i e he
      exact bind_spec hrec hd h1 he rfl (congrFun h3 e) hr
    · rename_i e he
      exact bind_spec hrec hd h1 he rfl (congrFun h4 e) hr
    · simp at hr
  · rename_i ε ζ j first E E2 k k2
    have hr' : (T.bind2 j first E E2 k k2).run = some r := by simp only [T.run] at hr ⊢; exact hr
    have ex' : (T.bind2 j first E E2 k k2).expect F = (T.bind2 (j + 1) first E E2 k k2).expect F := by simp only [T.expect]
    rw [← ex'] at h
    split at h
    · exact TV.block (hrec _ _ _ _ _ _ _ hd h hr')
    · exact TV.scopeN (hrec _ _ _ _ _ _ _ hd h hr')
    · exact TV.loopOnce (hrec _ _ _ _ _ _ _ hd h hr')
    · exact absurd h (expect_ns _ _ _)
  · rename_i ε ζ η j first E E2 E3 k k2 k3
    have hr' : (T.bind3 j first E E2 E3 k k2 k3).run = some r := by simp only [T.run] at hr ⊢; exact hr
    have ex' : (T.bind3 j first E E2 E3 k k2 k3).expect F = (T.bind3 (j + 1) first E E2 E3 k k2 k3).expect F := by simp only [T.expect]
    rw [← ex'] at h
    split at h
    · exact TV.block (hrec _ _ _ _ _ _ _ hd h hr')
    · exact TV.scopeN (hrec _ _ _ _ _ _ _ hd h hr')
    · exact TV.loopOnce (hrec _ _ _ _ _ _ _ hd h hr')
    · exact absurd h (expect_ns _ _ _)
  · rename_i ε j first E k
    have hr' : (T.bind j first E k).run = some r := by simp only [T.run] at hr ⊢; exact hr
    have ex' : (T.bind j first E k).expect F = (T.bind (j + 1) first E k).expect F := by simp only [T.expect]
    rw [← ex'] at h
    split at h
    · exact TV.block (hrec _ _ _ _ _ _ _ hd h hr')
    · exact TV.scopeN (hrec _ _ _ _ _ _ _ hd h hr')
    · exact TV.loopOnce (hrec _ _ _ _ _ _ _ hd h hr')
    · exact absurd h (expect_ns _ _ _)
  · exact sxN_spec hrec hd h hr

include hrec hm in
theorem sxC_spec {c : Code} (hd : d.Ok) (h : sxC kp rec F g c K d = g.expect F) (hr : g.run = some r) : TV P G c d.st (Qx P G (goal P F r d.n) K) := by
  unfold sxC at h
  split at h
  · exact TV.skipR (hrec _ _ _ _ _ _ _ hd h hr)
  · exact TV.labelR (hrec _ _ _ _ _ _ _ hd h hr)
  · exact TV.exitR (hrec _ _ _ _ _ _ _ hd h hr)
  · exact TV.retR (hrec _ _ _ _ _ _ _ hd h hr)
  · exact TV.seq (hrec _ _ _ _ _ _ _ hd h hr)
  · exact sxR_spec hm hrec hd h hr
  · exact sxB_spec hrec hd h hr

theorem Post.ghost {Q : Exit → St → Prop} {cur : Code ⊕ Exit} {st st' : St} (g : Gst G st st') (h : Post P G Q cur K st') : Post P G Q cur K st := by
  cases cur with
  | inl c => exact TV.ghost g h
  | inr e => exact Rel.ghost (P := P) g h

include hrec hm in
theorem sxD_spec {cur : Code ⊕ Exit} (hd : d.Ok) (h : sxD kp rec F g cur K d = g.expect F) (hr : g.run = some r) : Post P G (goal P F r d.n) cur K d.st := by
  unfold sxD at h
  split at h
  · exact sxE_spec hrec hd h hr
  · exact sxC_spec hm hrec hd h hr

include hrec hm in
theorem sxS_spec {cur : Code ⊕ Exit} (hd : d.Ok) (h : sxS kp rec F g cur K d = g.expect F) (hr : g.run = some r) : Post P G (goal P F r d.n) cur K d.st := by
  unfold sxS at h
  split at h
  · simp [T.run] at hr
  · rename_i a w k
    split at h
    · simp only [T.expect, C.gh.injEq] at h
      obtain ⟨h1, h2⟩ := h
      obtain ⟨d', x1, x2, x3, x4⟩ := ghX_spec (G := G) h2 (fun j => expect_ns F k j) h1 hd
      have := hrec _ _ _ _ _ _ _ x2 x1 (by simpa [T.run] using hr)
      rw [x4] at this
      exact this.ghost x3
    · exact sxD_spec hm hrec hd h hr
  · rename_i a b ty l n hs k
    split at h
    · split at h
      · rename_i kb hb hlow
        simp only [T.expect, C.hrow.injEq] at h
        obtain ⟨h1, _, h3⟩ := h
        simp only [T.run] at hr
        cases hc : decide (n ≤ l.length) with
        | false => rw [hc] at hr; simp at hr
        | true =>
          rw [hc] at hr
          obtain ⟨d', x1, x2, x3, x4⟩ := cutX_spec (G := G) h3 hd hb (by simpa using hlow) hs h1 (by simpa using hc)
          have := hrec _ _ _ _ _ _ _ x2 x1 (by simpa using hr)
          rw [x4] at this
          exact this.ghost x3
      · exact absurd h (expect_ns F _ _)
    · exact sxD_spec hm hrec hd h hr
  · rename_i a b dd ty l j col z ty2 o hc hs k
    split at h
    · split at h
      · rename_i kb hb hu hub
        simp only [T.expect, C.row.injEq, heq_eq_eq, true_and] at h
        obtain ⟨h1, h3⟩ := h
        simp only [T.run] at hr
        split at hr
        · rename_i x hx
          obtain ⟨x1, x2⟩ := takeD_spec (G := G) (l := l) (o := o) (ty2 := ty2) hd hb hu hub (hc x) hs h1 hx
          have := hrec _ _ _ _ _ _ _ x1 (congrFun h3 x) hr
          exact this.ghost x2
        · simp at hr
      · exact absurd h (expect_ns F _ _)
    · exact sxD_spec hm hrec hd h hr
  · exact sxD_spec hm hrec hd h hr

end

theorem sx_ok {P : Program} {G : Nat → Option (List V)} {kp : List Nat} (hm : P.follows .mixedOrders = true) : ∀ n, RecOk (sx P G kp n)
  | 0 => fun ρ F g cur K d r _ h _ => absurd h (expect_ns F g 99)
  | n + 1 => fun ρ F g cur K d r hd h hr => sxS_spec hm (sx_ok hm n) hd h hr

-- a function's contract

def argTs (args : List V) : List (Nat × V) := args.zipIdx.map fun x => (x.2, x.1)

def fnC (P : Program) (G : Nat → Option (List V)) (kp : List Nat) (fn : Func) (args : List V) (x : Ext) {ρ : Type} (g : T P G ρ) (res : ρ → V) (outs : ρ → List (Nat × Blk)) : Bool × C :=
  (fn.body.isSome && (x.ok && x.bs.all fun p => decide (1000000 ≤ p.1)), sx P G kp 100000 ρ (.fn fn.results.toList res outs) g (.inl (fn.body.getD .skip)) [] (x.D (max fn.ntmps args.length)))

theorem argTs_find : ∀ (args : List V) (k i : Nat), (match ((args.zipIdx k).map fun x => (x.2, x.1)).find? (fun p => p.1 == i + k) with | some p => p.2 | none => V.undef) = args.getD i .undef
  | [], k, i => rfl
  | v :: args, k, i => by
    simp only [List.zipIdx_cons, List.map_cons]
    cases i with
    | zero => simp
    | succ i =>
      rw [List.find?_cons_of_neg (by simp)]
      have := argTs_find args (k + 1) i
      rw [show i + 1 + k = i + (k + 1) by omega]
      exact this

theorem callC_body {P : Program} {G : Nat → Option (List V)} {f : FuncId} {fn : Func} {c : Code} {n : Nat} {args : List V} {ins : Nat → Option Blk} {res : V} {outs : Nat → Option Blk}
    (hf : P.funcs[f]? = some fn) (hb : fn.body = some c) (hn : n = max fn.ntmps args.length) 
    (h : ∀ (γ : Gh) (a : Act) (w : World), Sim G γ (entry n args ins) a.tmps w → a.defers = [] → CW none P c (fun e a' w' => ∃ v0, coeV 8 res v0 = res ∧ Lift G ⟨none, [], true⟩ γ (entry n args ins) w (Done P fn.results.toList v0 outs) e a' w') a w) : CallC P G f args ins res outs := by
  intro γ w as hg ho ha hbl
  have hsz : as.size = args.length := ha.1
  have hs : Sim G γ (entry n args ins) (as ++ Array.replicate (fn.ntmps - as.size) undef) w := by
    refine ⟨by simp only [Array.size_append, Array.size_replicate, entry, hn]; omega, fun i => ?_, fun b k hk => (hbl b k hk).2, fun b k hk => (hbl b k hk).1, hg, ho⟩
    show Rep γ w ins uTop (args.getD i .undef) _
    by_cases hi : i < args.length
    · have e1 : args.getD i .undef = args[i] := by simp [List.getD, List.getElem?_eq_getElem hi]
      have e2 : (as ++ Array.replicate (fn.ntmps - as.size) undef).getD i undef = as[i]'(by omega) := by
        rw [Array.getD_eq_getD_getElem?, Array.getElem?_append_left (by omega), Array.getElem?_eq_getElem (by omega)]; rfl
      rw [e1, e2]
      exact ha.2 i _ _ (List.getElem?_eq_getElem hi) (Array.getElem?_eq_getElem (by omega))
    · have e1 : args.getD i .undef = .undef := by rw [List.getD_eq_getElem?_getD, List.getElem?_eq_none (by omega)]; rfl
      rw [e1]; exact .undef _
  refine (callsIn_wide (n := 0)).1 (callsIn_of_wp_marks hf hb trivial (wpIn_mono (h γ ⟨as ++ Array.replicate (fn.ntmps - as.size) undef, []⟩ w hs rfl) fun e a' w' hl => ?_))
  obtain ⟨v0, hv0, st', γ', h1, ⟨h2, h2p⟩, ⟨Ds, _, m1, m2, m3⟩, he, hr, hout⟩ := hl
  have ble : BsLe γ' st'.b st'.u γ' outs (fun _ => true) := by
    refine ⟨fun _ _ => rfl, fun b _ hn => ?_, fun b k hk => ⟨rfl, ?_⟩⟩
    · cases ho : outs b with
      | none => rfl
      | some k => rw [hout b k ho] at hn; simp at hn
    · cases ho : outs b with
      | none => exact .inl rfl
      | some k' =>
        have := hout b k' ho
        rw [hk] at this; simp only [Option.some.injEq] at this; subst this
        exact .inr ⟨_, rfl, rfl, Nat.le_refl _, rfl⟩
  have fin : LeavesInM (RF none) 0 P fn a'.tmps (fun e w' => ∃ v γ', e = .returned v ∧ Grow γ w γ' w' ∧ Pin γ ins uTop γ' outs (fun _ => true) ∧ Rep γ' w' outs (fun _ => true) res v ∧
      (∀ b k, outs b = some k → BlkOk γ' w' outs (fun _ => true) b k) ∧ (∀ B x, γ'.own B = some x → B < w'.heap.size)) a'.defers .returning w' := by
    rw [m1, List.append_nil]
    refine leaves_marks (fun w'' => Sim G γ' st' a'.tmps w'' ∧ Grow γ w γ' w'') (fun w'' hI => ?_) Ds w' ⟨h1, h2⟩ m2 (fun D hD => (m3 D hD).2.1) fun D w'' hD hI hd =>
      ⟨(CellsSame.put hd (fun _ _ _ h => by cases h)).sim hI.1, hI.2.put hd (fun _ _ _ h => by cases h) (m3 D hD).1⟩
    obtain ⟨i1, i2⟩ := hI
    obtain ⟨v, hv, hrep⟩ := run_resultsV (P := P) i1 hr
    refine ⟨v, hv, v, γ', rfl, i2, h2p.trans ble.pin, (by have := coeV_rep 8 res v0 v (hrep.mono (.refl _ _) ble); rw [hv0] at this; exact this), fun b k hk => ?_, i1.o⟩
    rcases i1.b b k (hout b k hk) with h0 | ⟨B, o, cs, e, a1, a2, a3, a4, a5, a6, a7, a8⟩
    · exact .inl h0
    refine .inr ⟨B, o, cs, e, a1, a2, a3, a4, a5, fun i c hc => ?_, a7, a8⟩
    obtain ⟨x, b1, b2, b3, b4⟩ := a6 i c hc
    exact ⟨x, b1, b2.mono (.refl _ _) ble, b3, b4⟩
  rcases he with rfl | rfl
  · exact fin
  · exact fin


theorem fn_ok {P : Program} {G : Nat → Option (List V)} {kp : List Nat} (hm : P.follows .mixedOrders = true) {f : FuncId} {fn : Func} (hf : P.funcs[f]? = some fn) {args : List V} {x : Ext} (hx : x.ts = argTs args) {ρ : Type} {g : T P G ρ}
    {res : ρ → V} {outs : ρ → List (Nat × Blk)} (h : fnC P G kp fn args x g res outs = (true, g.expect (.fn fn.results.toList res outs))) : ∀ r, g.run = some r → CallC P G f args (ofL x.bs) (res r) (ofL (outs r)) := by
  intro r hr
  simp only [fnC, Prod.mk.injEq, Bool.and_eq_true, List.all_eq_true, decide_eq_true_eq] at h
  obtain ⟨⟨h1, h2, h3⟩, h4⟩ := h
  obtain ⟨c, hc⟩ := Option.isSome_iff_exists.1 h1
  rw [hc] at h4
  have key : TV P G c (x.D (max fn.ntmps args.length)).st (goal P (.fn fn.results.toList res outs) r _) := sx_ok hm 100000 _ _ _ _ _ _ _ (extD_ok h2) h4 hr
  have e : (x.D (max fn.ntmps args.length)).st = entry (max fn.ntmps args.length) args (ofL x.bs) := by
    unfold D.st Ext.D stOf entry
    simp only [St.mk.injEq, true_and]
    refine ⟨funext fun i => ?_, rfl, funext fun i => ?_⟩
    · rw [hx]
      have := argTs_find args 0 i
      exact this
    · cases hu : uTop i with
      | true => simp
      | false =>
        simp only [Bool.or_false]
        refine Bool.eq_false_iff.2 fun hc => ?_
        simp only [Ext.us, List.contains_eq_mem, decide_eq_true_eq] at hc
        obtain ⟨p, hp, rfl⟩ := List.mem_map.1 hc
        have := h3 p hp
        simp [uTop] at hu
        omega
  rw [e] at key
  intro γ w as hg ho ha hbl
  -- a result told otherwise
  have key2 : ∀ (γ : Gh) (a : Act) (w : World), Sim G γ (entry (max fn.ntmps args.length) args (ofL x.bs)) a.tmps w → a.defers = [] →
      CW none P c (fun e a' w' => ∃ v0, coeV 8 (res r) v0 = res r ∧ Lift G ⟨none, [], true⟩ γ (entry (max fn.ntmps args.length) args (ofL x.bs)) w (Done P fn.results.toList v0 (ofL (outs r))) e a' w') a w := fun γ a w hs hd =>
    wpIn_mono (key ⟨none, [], true⟩ γ a w hs hd) fun e a' w' hl => by
      obtain ⟨st', γ', k1, k2, k3, v0, k4, k5⟩ := hl
      exact ⟨v0, k4, st', γ', k1, k2, k3, k5⟩
  exact callC_body hf hc rfl key2 γ w as hg ho ha hbl

end Go.EV

namespace Go.EV
open Go

/-- What the kernel checks of a function that takes and gives data. -/
def FnD (P : Program) (G : Nat → Option (List V)) (kp : List Nat) (fn : Func) (args : List V) {ρ : Type} (g : T P G ρ) (res : ρ → V) : Prop :=
  fnC P G kp fn args (Ext.lit .normal (argTs args) []) g res (fun _ => []) = (true, g.expect (.fn fn.results.toList res fun _ => []))

def Spec.ofFn {P : Program} {G : Nat → Option (List V)} {kp : List Nat} (f : FuncId) {fn : Func} {args : List V} {ρ : Type} {g : T P G ρ} {res : ρ → V} (hm : P.follows .mixedOrders = true) (hf : P.funcs[f]? = some fn) (k : FnD P G kp fn args g res) : Spec P G ρ :=
  ⟨f, args, [], g.run, res, fun _ => [], [], fun _ _ h => by simp at h, fn_ok hm hf rfl k⟩

/-- .. of a function that takes or gives local blocks. -/
def FnB (P : Program) (G : Nat → Option (List V)) (kp : List Nat) (fn : Func) (args : List V) (x : Ext) {ρ : Type} (g : T P G ρ) (res : ρ → V) (O : ρ → Ext) : Prop :=
  fnC P G kp fn args x g res (fun r => (O r).bs) = (true, g.expect (.fn fn.results.toList res fun r => (O r).bs))

def Spec.ofFnB {P : Program} {G : Nat → Option (List V)} {kp : List Nat} (f : FuncId) {fn : Func} {args : List V} {x : Ext} {ρ : Type} {g : T P G ρ} {res : ρ → V} {O : ρ → Ext} (dt : List Nat) (hm : P.follows .mixedOrders = true) (hf : P.funcs[f]? = some fn) (hx : x.ts = argTs args)
    (hdt : ∀ r, ((O r).bs.all fun p => !dt.contains p.1 || (O r).dt.contains p.1) = true) (k : FnB P G kp fn args x g res O) : Spec P G ρ :=
  ⟨f, args, x.bs, g.run, res, fun r => (O r).bs, dt, fun r p hp hd => (O r).dat p hp (by
    have := List.all_eq_true.1 (hdt r) p hp
    simpa [hd] using this), fn_ok hm hf hx k⟩

def wi64 (n : Int) : Int := IntKind.i64.wrap n
def wi32 (n : Int) : Int := IntKind.i32.wrap n
def wi16 (n : Int) : Int := IntKind.i16.wrap n
def wi8 (n : Int) : Int := IntKind.i8.wrap n
def wu64 (n : Int) : Int := IntKind.u64.wrap n
def wu32 (n : Int) : Int := IntKind.u32.wrap n
def wu16 (n : Int) : Int := IntKind.u16.wrap n
def wu8 (n : Int) : Int := IntKind.u8.wrap n
def bs (l : List UInt8) : ByteArray := ⟨⟨l⟩⟩
def bAt (s : ByteArray) (i : Int) : Int := (s.data.getD i.toNat 0).toNat
def bAnd (k : IntKind) (a b : Int) : Int := k.wrap (BitVec.ofInt k.bits a &&& BitVec.ofInt k.bits b).toNat
def bOr (k : IntKind) (a b : Int) : Int := k.wrap (BitVec.ofInt k.bits a ||| BitVec.ofInt k.bits b).toNat
def bXor (k : IntKind) (a b : Int) : Int := k.wrap (BitVec.ofInt k.bits a ^^^ BitVec.ofInt k.bits b).toNat
def bAndNot (k : IntKind) (a b : Int) : Int := k.wrap (BitVec.ofInt k.bits a &&& ~~~BitVec.ofInt k.bits b).toNat
def bShl (k : IntKind) (a b : Int) : Int := k.wrap (a * 2 ^ (min b.toNat k.bits))
def bShr (k : IntKind) (a b : Int) : Int := a.fdiv (2 ^ (min b.toNat k.bits))
def mlenn {α : Type} (t : Ty α) (l : List α) : Nat := (l.map t.c).length
def mlen {α : Type} (t : Ty α) (l : List α) : Int := (mlenn t l : Nat)

theorem mlenn_eq {α : Type} (t : Ty α) (l : List α) : mlenn t l = l.length := by simp [mlenn]
theorem mlen_eq {α : Type} (t : Ty α) (l : List α) : mlen t l = (l.length : Int) := by simp [mlen, mlenn]

def ReW.tmp (d : Nat) (a b : V) (h : a = b) : ReW := ⟨[.t d a], [.t d b], by rw [h], [], fun _ _ h => by simp at h⟩
def ReW.cutHi {α : Type} (d z : Nat) (t : Ty α) (l : List α) (h : Nat) : ReW := .tmp d (.sl false z (((l.map t.c).take h).drop 0)) (.sl false z ((l.take h).map t.c)) (by simp)
def ReW.cutLo {α : Type} (d z : Nat) (t : Ty α) (l : List α) (k : Nat) : ReW := .tmp d (.sl false z (((l.map t.c).take (l.map t.c).length).drop k)) (.sl false z ((l.drop k).map t.c)) (by rw [List.take_length]; simp)
def ReW.cutAll {α : Type} (d z : Nat) (t : Ty α) (l : List α) : ReW := .tmp d (.sl false z (((l.map t.c).take (l.map t.c).length).drop 0)) (.sl false z ((l.take l.length).map t.c)) (by rw [List.take_length]; simp)
def ReW.cut2 {α : Type} (d z : Nat) (t : Ty α) (l : List α) (k h : Nat) : ReW := .tmp d (.sl false z (((l.map t.c).take h).drop k)) (.sl false z (((l.take h).drop k).map t.c)) (by simp)
def ReW.put {α : Type} (i z : Nat) (t : Ty α) (l : List α) (j : Nat) (y : α) : ReW :=
  ⟨[.b i (some ⟨z, true, (l.map t.c).set j (t.c y)⟩)], [.b i (some ⟨z, true, (l.set j y).map t.c⟩)], by rw [List.map_set], [i], fun b k h _ => by
    simp only [List.mem_singleton, Wr.b.injEq, Option.some.injEq] at h
    obtain ⟨_, rfl⟩ := h
    exact t.data _⟩

def ReW.take {α β : Type} (b z : Nat) (excl : Bool) (t : Ty α) (l : List α) (j : Nat) (hole : List V) (hh : hole.all dcell = true) (d z2 : Nat) (t2 : Ty β) (o : List β) (hf : ∀ y, t2.c y = t2.d y) (T : Nat → V) : ReW :=
  ⟨[.b b (some ⟨z, excl, (l.map t.c).set j hole⟩), .b d (some ⟨z2, false, (o.map t2.c).map (·.map V.strip)⟩), .t d (T (o.map t2.c).length)],
   [.b b (some ⟨z, excl, (l.map t.c).set j hole⟩), .b d (some ⟨z2, false, o.map t2.c⟩), .t d (T o.length)],
   by
    have e1 : o.map t2.c = o.map t2.d := List.map_congr_left fun a _ => hf a
    have e2 : (o.map t2.c).map (·.map V.strip) = o.map t2.c := by rw [e1, strip_map_d]
    rw [e2, List.length_map], [b, d], fun i k h _ => by
      simp only [List.mem_cons, List.not_mem_nil, or_false, Wr.b.injEq, Option.some.injEq, reduceCtorEq] at h
      rcases h with ⟨_, rfl⟩ | ⟨_, rfl⟩
      · exact holed_dat t l j hole hh
      · exact t2.data _⟩

end Go.EV

namespace Go.EV
open Go

theorem Rep.frame {γ γ' : Gh} {w w' : World} {bs : Nat → Option Blk} {u : Nat → Bool} (hm : ∀ B o v, o < γ.lim B → cellAt w B o = some v → o < γ'.lim B ∧ cellAt w' B o = some v) (hr : ∀ B n, RoomAt w B n → RoomAt w' B n) (hl : γ'.loc = γ.loc)
    {c : V} {v : Value} (h : Rep γ w bs u c v) : Rep γ' w' bs u c v := by
  induction h with
  | data h => exact .data (h.mono hm)
  | undef v => exact .undef v
  | ref b off len B o cap k h1 h2 h3 h4 h5 => exact .ref b off len B o cap k h1 (by rw [hl]; exact h2) h3 h4 (hr _ _ h5)
  | refE b off B k h1 h2 => exact .refE b off B k h1 h2
  | refN b off k h1 h2 => exact .refN b off k h1 h2
  | deadRef b off len v h1 h2 h3 => exact .deadRef b off len v h1 h2 h3
  | ptr b i off B o k h1 h2 => exact .ptr b i off B o k h1 (by rw [hl]; exact h2)
  | deadPtr b i off v h1 h2 h3 => exact .deadPtr b i off v h1 h2 h3
  | fn f first captured fs cs h1 h2 _ _ ih1 ih2 => exact .fn f first captured fs cs h1 h2 ih1 ih2
  | agg cells vs h1 _ ih => exact .agg cells vs h1 ih
  | tup cells vs h1 _ ih => exact .tup cells vs h1 ih

/-- A state is left alone by a step that turns nothing that it owns and keeps the data that it may read. -/
theorem Sim.frame {G : Nat → Option (List V)} {γ γ' : Gh} {st : St} {tmps : Array Value} {w w' : World} (hs : Sim G γ st tmps w)
    (hm : ∀ B o v, o < γ.lim B → cellAt w B o = some v → o < γ'.lim B ∧ cellAt w' B o = some v) (hr : ∀ B n, RoomAt w B n → RoomAt w' B n) (hl : γ'.loc = γ.loc) (ho : γ'.own = γ.own)
    (hb : ∀ B x, γ.own B = some x → w'.heap[B]? = w.heap[B]? ∧ γ'.lim B = γ.lim B) (hz : w.heap.size ≤ w'.heap.size) : Sim G γ' st tmps w' := by
  refine ⟨hs.n, fun i => (hs.t i).frame hm hr hl, fun b k hk => ?_, hs.u, fun g cells hg => (hs.g g cells hg).mono hm, fun B x hx => Nat.lt_of_lt_of_le (hs.o B x (by rw [← ho]; exact hx)) hz⟩
  rcases hs.b b k hk with ⟨v1, v2⟩ | ⟨B, o, cs, e, a1, a2, a3, a4, a5, a6, a7, a8⟩
  · exact .inl ⟨by rw [hl]; exact v1, v2⟩
  · refine .inr ⟨B, o, cs, e, by rw [hl]; exact a1, by rw [ho]; exact a2, (hb B _ a2).1.trans a3, a4, a5, fun i c hc => ?_, fun hx => (hb B _ a2).2.trans (a7 hx), by rw [(hb B _ a2).2]; exact a8⟩
    obtain ⟨x, b1, b2, b3, b4⟩ := a6 i c hc
    refine ⟨x, b1, b2.frame hm hr hl, b3, ?_⟩
    unfold Right at b4 ⊢
    split at b4
    · rcases b4 with b4 | ⟨⟨c1, c2⟩, cs', e', c3, c4⟩
      · exact .inl b4
      · exact .inr ⟨⟨by rw [ho]; exact c1, by rw [(hb _ _ c1).2]; exact c2⟩, cs', e', (hb _ _ c1).1.trans c3, c4⟩
    · trivial

/-- Nothing is told of what is not yet there. -/
def Gh.trim (γ : Gh) (n : Nat) : Gh := { γ with lim := fun B => if B < n then γ.lim B else 0 }

/-- The function that ranges lies suspended: its state, in its own ghost; the iterator's ghost stands beside it. -/
structure Env (G : Nat → Option (List V)) (γ0 : Gh) (w0 : World) (st0 : St) (l D : Nat) (te : Array Value) (ste : St) (r : Loop) (γi γr : Gh) (w : World) : Prop where
  sim : Sim G γr ste te w
  grow : Grow γ0 w0 γr w
  pin : Pin γ0 st0.b st0.u γr ste.b ste.u
  loop : w.heap[l]? = some (.loop r)
  dfr : w.heap[D]? = some (.deferred (some []))
  lo : w0.heap.size ≤ l ∧ w0.heap.size ≤ D ∧ l ≠ D
  ownl : γr.own l = none ∧ γr.own D = none
  sepi : ∀ B x, γi.own B = some x → γr.own B = none ∧ γr.lim B = 0 ∧ (w0.heap.size ≤ B ∨ γ0.own B ≠ none) ∧ B ≠ l ∧ B ≠ D
  sepr : ∀ B x, γr.own B = some x → γi.lim B ≤ γr.lim B

section
variable {G : Nat → Option (List V)} {γ0 : Gh} {w0 : World} {st0 : St} {l D : Nat} {te : Array Value} {ste : St} {r : Loop} {γi γr : Gh} {w : World}

/-- The iterator makes a step. -/
theorem Env.iter (h : Env G γ0 w0 st0 l D te ste r γi γr w) {γi' : Gh} {w' : World} (g : Grow γi w γi' w') (ho : ∀ B x, γi'.own B = some x → B < w'.heap.size) : ∃ γr', Env G γ0 w0 st0 l D te ste r γi' γr' w' := by
  have no : ∀ B x, γr.own B = some x → γi.own B = none := fun B x hx => by
    cases hi : γi.own B with
    | none => rfl
    | some y => have := (h.sepi B y hi).1; rw [hx] at this; simp at this
  have hm : ∀ B o v, o < γr.lim B → cellAt w B o = some v → o < (γr.trim w.heap.size).lim B ∧ cellAt w' B o = some v := fun B o v hB hc => by
    have hlt := cellAt_lt hc
    have hi : γi.own B = none := by
      cases hi : γi.own B with
      | none => rfl
      | some y => have := (h.sepi B y hi).2.1; omega
    refine ⟨by simp only [Gh.trim]; rw [if_pos hlt]; exact hB, ?_⟩
    unfold cellAt World.cell? at hc ⊢
    simp only [(g.free B hlt hi).1]; exact hc
  have tl : ∀ B, B < w.heap.size → (γr.trim w.heap.size).lim B = γr.lim B := fun B hB => by simp only [Gh.trim]; rw [if_pos hB]
  refine ⟨γr.trim w.heap.size, ?_, ?_, h.pin, ?_, ?_, h.lo, h.ownl, fun B x hx => ?_, fun B x hx => ?_⟩
  · exact h.sim.frame hm (fun B n => g.roomAt) rfl rfl (fun B x hx => ⟨(g.free B (h.sim.o B x hx) (no B x hx)).1, tl B (h.sim.o B x hx)⟩) g.size
  · refine ⟨g.os.trans h.grow.os, g.tape.trans h.grow.tape, g.output.trans h.grow.output, Nat.le_trans h.grow.size g.size, fun B o v hB hc => ?_, fun B hB => ?_, fun B hB hn => ?_, fun B cs e fz hc => ?_⟩
    · have := h.grow.imm B o v hB hc
      exact (hm B o v (Nat.lt_of_lt_of_le hB (h.grow.lim B (cellAt_lt hc))) this).2
    · rw [tl B (Nat.lt_of_lt_of_le hB h.grow.size)]; exact h.grow.lim B hB
    · obtain ⟨a1, a2, a3⟩ := h.grow.free B hB hn
      have hi : γi.own B = none := by
        cases hi : γi.own B with
        | none => rfl
        | some y =>
          rcases (h.sepi B y hi).2.2.1 with h1 | h1
          · omega
          · exact absurd hn h1
      have hB' := Nat.lt_of_lt_of_le hB h.grow.size
      exact ⟨(g.free B hB' hi).1.trans a1, a2, (tl B hB').trans a3⟩
    · obtain ⟨cs1, a1, a2⟩ := h.grow.room B cs e fz hc
      obtain ⟨cs2, b1, b2⟩ := g.room B cs1 e fz a1
      exact ⟨cs2, b1, b2.trans a2⟩
  · have hl : γi.own l = none := by
      cases hi : γi.own l with
      | none => rfl
      | some y => exact absurd rfl (h.sepi l y hi).2.2.2.1
    exact (g.free l (Array.getElem?_eq_some_iff.1 h.loop).1 hl).1.trans h.loop
  · have hl : γi.own D = none := by
      cases hi : γi.own D with
      | none => rfl
      | some y => exact absurd rfl (h.sepi D y hi).2.2.2.2
    exact (g.free D (Array.getElem?_eq_some_iff.1 h.dfr).1 hl).1.trans h.dfr
  · rcases Nat.lt_or_ge B w.heap.size with hB | hB
    · cases hi : γi.own B with
      | none => have := (g.free B hB hi).2.1; rw [hx] at this; simp at this
      | some y =>
        obtain ⟨a1, a2, a3, a4, a5⟩ := h.sepi B y hi
        exact ⟨a1, by rw [tl B hB]; exact a2, a3, a4, a5⟩
    · have l1 := (Array.getElem?_eq_some_iff.1 h.loop).1
      have l2 := (Array.getElem?_eq_some_iff.1 h.dfr).1
      refine ⟨?_, by simp only [Gh.trim]; rw [if_neg (by omega)], .inl (Nat.le_trans h.grow.size hB), by omega, by omega⟩
      show γr.own B = none
      cases hr : γr.own B with
      | none => rfl
      | some y => have := h.sim.o B y hr; omega
  · have hB := h.sim.o B x hx
    rw [tl B hB, (g.free B hB (no B x hx)).2.2]
    exact h.sepr B x hx

/-- The function that ranges makes a step (in a round): the iterator's state stands. -/
theorem Env.round (h : Env G γ0 w0 st0 l D te ste r γi γr w) {sti : St} {ti : Array Value} (hi : Sim G γi sti ti w) {γr' : Gh} {w' : World} {ste' : St} (g : Grow γr w γr' w') (hp : Pin γr ste.b ste.u γr' ste'.b ste'.u) (hs : Sim G γr' ste' te w') :
    ∃ γi', Env G γ0 w0 st0 l D te ste' r γi' γr' w' ∧ Sim G γi' sti ti w' ∧ γi'.own = γi.own := by
  have tl : ∀ B, B < w.heap.size → (γi.trim w.heap.size).lim B = γi.lim B := fun B hB => by simp only [Gh.trim]; rw [if_pos hB]
  have l1 := (Array.getElem?_eq_some_iff.1 h.loop).1
  have l2 := (Array.getElem?_eq_some_iff.1 h.dfr).1
  refine ⟨γi.trim w.heap.size, ⟨hs, h.grow.trans g, h.pin.trans hp, (g.free l l1 h.ownl.1).1.trans h.loop, (g.free D l2 h.ownl.2).1.trans h.dfr, h.lo, ⟨(g.free l l1 h.ownl.1).2.1, (g.free D l2 h.ownl.2).2.1⟩, fun B x hx => ?_, fun B x hx => ?_⟩, ?_, rfl⟩
  · obtain ⟨a1, a2, a3, a4, a5⟩ := h.sepi B x hx
    obtain ⟨b1, b2, b3⟩ := g.free B (hi.o B x hx) a1
    exact ⟨b2, b3.trans a2, a3, a4, a5⟩
  · rcases Nat.lt_or_ge B w.heap.size with hB | hB
    · cases hr : γr.own B with
      | none => have := (g.free B hB hr).2.1; rw [hx] at this; simp at this
      | some y => rw [tl B hB]; exact Nat.le_trans (h.sepr B y hr) (g.lim B hB)
    · simp only [Gh.trim]; rw [if_neg (by omega)]; exact Nat.zero_le _
  · refine hi.frame (fun B o v hB hc => ?_) (fun B n => g.roomAt) rfl rfl (fun B x hx => ⟨(g.free B (hi.o B x hx) (h.sepi B x hx).1).1, tl B (hi.o B x hx)⟩) g.size
    have hlt := cellAt_lt hc
    refine ⟨by rw [tl B hlt]; exact hB, ?_⟩
    cases hr : γr.own B with
    | none =>
      unfold cellAt World.cell? at hc ⊢
      simp only [(g.free B hlt hr).1]; exact hc
    | some y => exact g.imm B o v (Nat.lt_of_lt_of_le hB (h.sepr B y hr)) hc

/-- The record turns. -/
theorem Env.record (h : Env G γ0 w0 st0 l D te ste r γi γr w) (r' : Loop) : Env G γ0 w0 st0 l D te ste r' γi γr (w.putObj l (.loop r')) :=
  have cs : CellsSame w (w.putObj l (.loop r')) := .put h.loop (fun _ _ _ h => by cases h)
  ⟨cs.sim h.sim, h.grow.put h.loop (fun _ _ _ h => by cases h) h.lo.1, h.pin, World.putObj_heap_same (Array.getElem?_eq_some_iff.1 h.loop).1, (World.putObj_heap_other (Ne.symm h.lo.2.2)).trans h.dfr, h.lo, h.ownl, h.sepi, h.sepr⟩
end

end Go.EV

namespace Go.EV
open Go

/-- What speaks of blocks that came in from outside alone reads on. -/
theorem Rep.pin {γ γ' : Gh} {w w' : World} {bs bs' : Nat → Option Blk} {u u' : Nat → Bool} (g : Grow γ w γ' w') (hp : Pin γ bs u γ' bs' u') {c : V} {v : Value} (h : Rep γ w bs u c v) : okV uTop c = true → Rep γ' w' bs' u' c v := by
  have top : ∀ {b}, uTop b = true → 1000000 ≤ b := fun h => by simpa [uTop] using h
  induction h with
  | data h => exact fun _ => .data (g.data h)
  | undef v => exact fun _ => .undef v
  | ref b off len B o cap k h1 h2 h3 h4 h5 =>
    intro ho
    simp only [okV] at ho
    obtain ⟨_, _, hk⟩ := hp b (top ho)
    obtain ⟨hu, hk⟩ := hk k h1
    rcases hk with hk | ⟨k', hk, hs, hr, hl⟩
    · exact .deadRef b off len _ hk hu rfl
    · rw [← hs]
      exact .ref b off len B o cap k' hk (hl.trans h2) (Nat.le_trans h3 hr) h4 (g.roomAt (by rw [hs]; exact h5))
  | refE b off B k h1 h2 =>
    intro ho
    simp only [okV] at ho
    obtain ⟨_, _, hk⟩ := hp b (top ho)
    obtain ⟨hu, hk⟩ := hk k h1
    rcases hk with hk | ⟨k', hk, hs, hr, hl⟩
    · exact .deadRef b off 0 _ hk hu rfl
    · exact .refE b off B k' hk (Nat.le_trans h2 hr)
  | refN b off k h1 h2 =>
    intro ho
    simp only [okV] at ho
    obtain ⟨_, _, hk⟩ := hp b (top ho)
    obtain ⟨hu, hk⟩ := hk k h1
    rcases hk with hk | ⟨k', hk, hs, hr, hl⟩
    · exact .deadRef b off 0 _ hk hu rfl
    · exact .refN b off k' hk (Nat.le_trans h2 hr)
  | deadRef b off len v h1 h2 h3 =>
    intro ho
    simp only [okV] at ho
    obtain ⟨hu, hg, _⟩ := hp b (top ho)
    exact .deadRef b off len v (hg h2 h1) (hu h2) h3
  | ptr b i off B o k h1 h2 =>
    intro ho
    simp only [okV] at ho
    obtain ⟨_, _, hk⟩ := hp b (top ho)
    obtain ⟨hu, hk⟩ := hk k h1
    rcases hk with hk | ⟨k', hk, hs, hr, hl⟩
    · exact .deadPtr b i off _ hk hu rfl
    · rw [← hs]; exact .ptr b i off B o k' hk (hl.trans h2)
  | deadPtr b i off v h1 h2 h3 =>
    intro ho
    simp only [okV] at ho
    obtain ⟨hu, hg, _⟩ := hp b (top ho)
    exact .deadPtr b i off v (hg h2 h1) (hu h2) h3
  | fn f first captured fs cs h1 h2 _ _ ih1 ih2 =>
    intro ho
    simp only [okV, Bool.and_eq_true] at ho
    exact .fn f first captured fs cs h1 h2 (fun i c v hc hv => ih1 i c v hc hv (okL_get ho.1 hc)) (fun i c v hc hv => ih2 i c v hc hv (okL_get ho.2 hc))
  | agg cells vs h1 _ ih => intro ho; exact .agg cells vs h1 fun i c v hc hv => ih i c v hc hv (okL_get (by simpa [okV] using ho) hc)
  | tup cells vs h1 _ ih => intro ho; exact .tup cells vs h1 fun i c v hc hv => ih i c v hc hv (okL_get (by simpa [okV] using ho) hc)

/-- The state of a function that lies suspended: its blocks bear outer names. -/
def susp (n : Nat) (t : Nat → V) (b : Nat → Option Blk) : St := ⟨n, t, b, uTop⟩

theorem Sim.resume {G : Nat → Option (List V)} {γ γ' : Gh} {w w' : World} {n m : Nat} {t t' : Nat → V} {b b' : Nat → Option Blk} {te tm : Array Value} (h : Sim G γ (susp n t b) te w) (ht : ∀ i, okV uTop (t i) = true)
    (g : Grow γ w γ' w') (hp : Pin γ b uTop γ' b' uTop) (h' : Sim G γ' (susp m t' b') tm w') : Sim G γ' (susp n t b') te w' :=
  ⟨h.n, fun i => (h.t i).pin g hp (ht i), h'.b, h'.u, h'.g, h'.o⟩

def setP (st : St) (l : List (Nat × V)) : St := l.foldl (fun st p => st.setT p.1 p.2) st

theorem Sim.setP {G : Nat → Option (List V)} {γ : Gh} {w : World} : ∀ {ps : List Nat} {cs : List V} {vs : List Value} {st : St} {ts : Array Value}, Sim G γ st ts w → (∀ p, p ∈ ps → p < st.n) → cs.length = ps.length → vs.length = ps.length →
    (∀ (i : Nat) (c : V) (v : Value), cs[i]? = some c → vs[i]? = some v → Rep γ w st.b st.u c v) → Sim G γ (EV.setP st (ps.zip cs)) ((ps.zip vs).foldl (fun t p => t.setIfInBounds p.1 p.2) ts) w
  | [], cs, vs, st, ts, h, _, _, _, _ => by simpa [EV.setP] using h
  | p :: ps, c :: cs, v :: vs, st, ts, h, hp, h1, h2, hr => by
    have key : Sim G γ (st.put (some p) c) ((⟨ts, []⟩ : Act).put (some p) v).tmps w := Sim.put (a := ⟨ts, []⟩) h (by simpa [dstOk] using hp p (by simp)) (hr 0 c v rfl rfl)
    exact Sim.setP (ps := ps) (cs := cs) (vs := vs) (st := st.setT p c) key (fun q hq => hp q (by simp [hq])) (by simpa using h1) (by simpa using h2) fun i c' v' hc hv => hr (i + 1) c' v' (by simpa using hc) (by simpa using hv)
  | p :: ps, [], vs, st, ts, _, _, h1, _, _ => by simp at h1
  | p :: ps, c :: cs, [], st, ts, _, _, _, h2, _ => by simp at h2

/-- One round: what comes of it, for these arguments and these blocks. -/
def RoundT (P : Program) (G : Nat → Option (List V)) (n : Nat) (t : Nat → V) (ps : List Nat) (assign body : Code) (b : Nat → Option Blk) (cs : List V) (R : Exit → (Nat → Option Blk) → Prop) : Prop :=
  ∃ st1, TV P G assign (setP (susp n t b) (ps.zip cs)) (fun e s => e = .normal ∧ Gst G s st1) ∧
    TV P G body st1 (fun e s => ∃ b' m, R e b' ∧ Gst G s (susp m (fun _ => .undef) b'))

def jumpOf : Exit → Option Code
  | .ret => some .ret
  | .exit id => some (.exit id)
  | _ => none

/-- The loop's record behind a round that was left so. -/
def recOf (fn : FuncId) (te : Array Value) (ps : Array Tmp) (assign body : Code) (D : Nat) (e : Exit) : Loop :=
  { state := if (jumpOf e).isNone then .ready else .done, pending := jumpOf e, fn, tmps := te, params := ps, assign, body, defers := D }

section
variable {P : Program} {G : Nat → Option (List V)} {γ0 : Gh} {w0 : World} {st0 : St} {l D : Nat} {te : Array Value} {n : Nat} {t : Nat → V} {b : Nat → Option Blk} {γi γr : Gh} {w : World}
  {fn : FuncId} {ps : Array Tmp} {assign body : Code}

theorem yield_round {sti : St} {ti : Array Value} {cs : List V} {as : Array Value} {R : Exit → (Nat → Option Blk) → Prop} {X : Ending → World → Prop} (hs : Sim G γi sti ti w) (ht : ∀ i, okV uTop (t i) = true) (hpn : ∀ p, p ∈ ps.toList → p < n)
    (he : Env G γ0 w0 st0 l D te (susp n t b) (recOf fn te ps assign body D .normal) γi γr w) (hps : cs.length = ps.size) (hr : RoundT P G n t ps.toList assign body b cs R) (hR : ∀ e b', R e b' → e = .normal ∨ e = .ret ∨ ∃ id, e = .exit id)
    (ha : as.size = ps.size) (hcs : ∀ (i : Nat) (c : V) (v : Value), cs[i]? = some c → as[i]? = some v → Rep γr w b uTop c v)
    (hX : ∀ e b' γi' γr' w', R e b' → Env G γ0 w0 st0 l D te (susp n t b') (recOf fn te ps assign body D e) γi' γr' w' → Sim G γi' sti ti w' → X (.returned (.bool (jumpOf e).isNone)) w') :
    RoundIn (RF none) 0 P l fn ((ps.zip as).foldl (fun t (p, v) => t.setIfInBounds p v) te) assign body w X := by
  obtain ⟨st1, r1, r2⟩ := hr
  have e1 : (ps.zip as).foldl (fun t (p, v) => t.setIfInBounds p v) te = (ps.toList.zip as.toList).foldl (fun t p => t.setIfInBounds p.1 p.2) te := by
    rw [← Array.foldl_toList, Array.toList_zip]
  refine roundIn_of_wpIn trivial ?_
  rw [e1]
  have h1 : Sim G γr (setP (susp n t b) (ps.toList.zip cs)) ((ps.toList.zip as.toList).foldl (fun t p => t.setIfInBounds p.1 p.2) te) w :=
    Sim.setP he.sim hpn (by simpa using hps) (by simpa using ha) fun i c v hc hv => hcs i c v hc (by simpa using hv)
  have b1 : (setP (susp n t b) (ps.toList.zip cs)).b = b ∧ (setP (susp n t b) (ps.toList.zip cs)).u = uTop := by
    have : ∀ (L : List (Nat × V)) (s : St), (setP s L).b = s.b ∧ (setP s L).u = s.u := fun L => by
      induction L with
      | nil => exact fun s => ⟨rfl, rfl⟩
      | cons p L ih => exact fun s => ⟨(ih (s.setT p.1 p.2)).1, (ih (s.setT p.1 p.2)).2⟩
    exact this _ _
  refine wpIn_mono (r1 ⟨some l, [], true⟩ γr ⟨_, []⟩ w h1 rfl) fun e a1 w1 hl => ?_
  obtain ⟨s1, γ1, k1, ⟨k2, k2p⟩, k3, rfl, k4⟩ := hl
  obtain ⟨γ2, m1, m2, m3⟩ := k4 γ1 a1.tmps w1 k1
  have g2 := k2.trans m2
  have p2 := k2p.trans m3
  rw [b1.1, b1.2] at p2
  -- the record is busy
  have hl1 : w1.heap[l]? = some (.loop (recOf fn te ps assign body D .normal)) := (k2.free l (Array.getElem?_eq_some_iff.1 he.loop).1 he.ownl.1).1.trans he.loop
  refine ⟨_, run_beginRound hl1 rfl, ?_⟩
  have cs1 : ∀ o', CellsSame w1 (w1.putObj l o') := fun o' => .put hl1 (fun _ _ _ h => by cases h)
  refine wpIn_mono (r2 ⟨some l, a1.defers, true⟩ γ2 a1 _ ((cs1 _).sim m1) rfl) fun e a2 w2 hl => ?_
  obtain ⟨s2, γ3, n1, ⟨n2, n2p⟩, n3, b', m, q1, q2⟩ := hl
  obtain ⟨γ4, o1, o2, o3⟩ := q2 γ3 a2.tmps w2 n1
  have g4 := n2.trans o2
  have p4 := n2p.trans o3
  -- as if the record had been busy all the while
  have own2 : γ2.own l = none := (g2.free l (Array.getElem?_eq_some_iff.1 he.loop).1 he.ownl.1).2.1
  have eB := he.record { recOf fn te ps assign body D .normal with state := .busy }
  have csw : ∀ o', CellsSame w (w.putObj l o') := fun o' => .put he.loop (fun _ _ _ h => by cases h)
  have gB : Grow γr (w.putObj l (.loop { recOf fn te ps assign body D .normal with state := .busy })) γ2 (w1.putObj l (.loop { recOf fn te ps assign body D .normal with state := .busy })) := by
    refine ⟨g2.os, g2.tape, g2.output, by simpa using g2.size, fun B o v hB hc => ?_, fun B hB => g2.lim B (by simpa using hB), fun B hB hn => ?_, fun B cs e fz hc => ?_⟩
    · have hne : B ≠ l := fun e => by
        subst e
        obtain ⟨c1, c2, c3, hb⟩ := cellAt_block hc
        rw [World.putObj_heap_same (Array.getElem?_eq_some_iff.1 he.loop).1] at hb; cases hb
      refine (cs1 _).cell (g2.imm B o v hB ?_)
      unfold cellAt World.cell? at hc ⊢
      simp only [World.putObj_heap_other hne] at hc; exact hc
    · rw [World.putObj_size] at hB
      obtain ⟨a1, a2, a3⟩ := g2.free B hB hn
      refine ⟨?_, a2, a3⟩
      by_cases e : B = l
      · subst e; rw [World.putObj_heap_same (Array.getElem?_eq_some_iff.1 hl1).1, World.putObj_heap_same hB]
      · rw [World.putObj_heap_other e, World.putObj_heap_other e]; exact a1
    · have hne : B ≠ l := fun e' => by
        subst e'
        rw [World.putObj_heap_same (Array.getElem?_eq_some_iff.1 he.loop).1] at hc; cases hc
      rw [World.putObj_heap_other hne] at hc
      obtain ⟨cs', c1, c2⟩ := g2.room B cs e fz hc
      exact ⟨cs', by rw [World.putObj_heap_other hne]; exact c1, c2⟩
  have gT := gB.trans g4
  have pT : Pin γr b uTop γ4 b' uTop := p2.trans p4
  have sT : Sim G γ4 (susp n t b') te w2 := eB.sim.resume ht gT pT o1
  obtain ⟨γi', f1, f2, _⟩ := Env.round (ste' := susp n t b') eB ((csw _).sim hs) gT pT sT
  have hl2 := f1.loop
  have fin : ∀ (e : Exit) (w3 : World), R e b' → (Instr.endRound l (jumpOf e)).run P w2 = .ok (.bool (jumpOf e).isNone) (w2.putObj l (.loop (recOf fn te ps assign body D e))) ∧ X (.returned (.bool (jumpOf e).isNone)) (w2.putObj l (.loop (recOf fn te ps assign body D e))) := fun e w3 hRe =>
    ⟨run_endRound (P := P) (jumpOf e) hl2, hX e b' γi' γ4 _ hRe (f1.record _) ((CellsSame.put hl2 (fun _ _ _ h => by cases h)).sim f2)⟩
  rcases hR e b' q1 with rfl | rfl | ⟨id, rfl⟩
  · exact ⟨_, _, fin .normal w2 q1⟩
  · exact ⟨_, _, fin .ret w2 q1⟩
  · exact ⟨_, _, fin (.exit id) w2 q1⟩
end

end Go.EV

namespace Go.EV
open Go

theorem Rep.yld_inv {γ : Gh} {w : World} {bs : Nat → Option Blk} {u : Nat → Bool} {l : Nat} {v : Value} (h : Rep γ w bs u (.yld l) v) : v = .func (.yield l) #[] #[] := by
  cases h with
  | data h => cases h; rfl

section
variable {P : Program} {G : Nat → Option (List V)} {γ0 : Gh} {w0 : World} {st0 : St} {l D : Nat} {te : Array Value} {n : Nat} {t : Nat → V} {b : Nat → Option Blk} {γi γr : Gh} {w : World}
  {fn : FuncId} {ps : Array Tmp} {assign body : Code}

theorem yield_op {o : Oper} {x : Operand} {xs : Array Operand} {ts : Array TypeId} {st : St} {a : Act} {cs : List V} {R : Exit → (Nat → Option Blk) → Prop} {nx : Act → World → Prop} {Q : Exit → Act → World → Prop}
    (ho : o.op = .call { callee := .value x, args := xs, argTypes := ts }) (hx : st.ev G x = some (.yld l)) (hcs : evs (st.ev G) xs.toList = some cs) (hf : flatL cs = true)
    (hs : Sim G γi st a.tmps w) (ht : ∀ i, okV uTop (t i) = true) (hpn : ∀ p, p ∈ ps.toList → p < n)
    (he : Env G γ0 w0 st0 l D te (susp n t b) (recOf fn te ps assign body D .normal) γi γr w) (hps : cs.length = ps.size) (hr : RoundT P G n t ps.toList assign body b cs R) (hR : ∀ e b', R e b' → e = .normal ∨ e = .ret ∨ ∃ id, e = .exit id)
    (hX : ∀ e b' γi' γr' w', R e b' → Env G γ0 w0 st0 l D te (susp n t b') (recOf fn te ps assign body D e) γi' γr' w' → Sim G γi' st a.tmps w' → nx (a.put o.dst (.bool (jumpOf e).isNone)) w') :
    o.wpIn (RF none) 0 P a w nx Q := by
  refine ⟨fun _ _ => trivial, ?_⟩
  have hv := (hs.ev hx).yld_inv
  have e : (execOp a.eval o) = (do let d ← Deferred.ofValue (a.eval x) (xs.map a.eval); invoke d.target d.args) := by
    unfold execOp; rw [ho]; rfl
  have hm := evs_rep hs hcs
  have k : (xs.toList.map a.eval).toArray = xs.map a.eval := Array.ext' (by rw [Array.toList_map])
  rw [k] at hm
  have hsz : (xs.map a.eval).size = ps.size := hm.1.trans hps
  have hrun : (execOp a.eval o).run P w = .ok (.round l fn ((ps.zip (xs.map a.eval)).foldl (fun t (p, v) => t.setIfInBounds p v) te) assign body) w := by
    rw [e, hv]
    have : (do let d ← Deferred.ofValue (.func (.yield l) #[] #[]) (xs.map a.eval); invoke d.target d.args : Sem Next) = Instr.yield l (xs.map a.eval) := by
      simp [Deferred.ofValue, invoke]
    rw [this]
    exact run_yield he.loop hsz
  show o.uponIn _ _ _ _ _ _ (((o.semAt none a.eval)).run P w)
  rw [Oper.semAt_none, hrun, Oper.uponIn_round]
  refine ⟨fun h => by simp [RF, Fence.wide] at h, ?_⟩
  refine yield_round hs ht hpn he hps hr hR hsz (fun i c v hc hv => ((hm.2 i c v hc hv).flat (flatL_get hf hc))) fun e b' γi' γr' w' h1 h2 h3 => hX e b' γi' γr' w' h1 h2 h3
end

/-- An iterator's contract, with a suspended function's rounds at its yield. -/
def IterT (P : Program) (G : Nat → Option (List V)) (c : Code) (m : Nat) (args : Nat → List V) (bi : Nat → Option Blk) (n : Nat) (t : Nat → V) (ps : Array Tmp) (assign body : Code) (br : Nat → Option Blk) (R : Exit → (Nat → Option Blk) → Prop) : Prop :=
  ∀ (fn : FuncId) (γ0 : Gh) (w0 : World) (st0 : St) (l D : Nat) (te : Array Value) (γi γr : Gh) (a : Act) (w : World),
    Env G γ0 w0 st0 l D te (susp n t br) (recOf fn te ps assign body D .normal) γi γr w → Sim G γi (entry m (args l) bi) a.tmps w → a.defers = [] →
    CW none P c (fun e a' w' => (e = .normal ∨ e = .ret) ∧ a'.defers = [] ∧ ∃ e2 b' γi' γr', R e2 b' ∧ Env G γ0 w0 st0 l D te (susp n t b') (recOf fn te ps assign body D e2) γi' γr' w') a w

theorem heap_alloc (w : World) (o : Obj) (B : Nat) (hB : B < w.heap.size) : (w.alloc o).heap[B]? = w.heap[B]? := by
  show (w.heap.push o)[B]? = _
  rw [Array.getElem?_push, if_neg (by omega)]

theorem Grow.alloc (γ : Gh) (w : World) (o : Obj) : Grow γ w γ (w.alloc o) ∧ CellsSame w (w.alloc o) := by
  have cs : CellsSame w (w.alloc o) := ⟨by simp, fun B cs e fz h => by
    have := (Array.getElem?_eq_some_iff.1 h).1
    exact (heap_alloc w o B this).trans h⟩
  exact ⟨(Grow.refl γ w).same cs (fun B hB => heap_alloc w o B hB) rfl rfl rfl, cs⟩

section
variable {P : Program} {G : Nat → Option (List V)}

open Classical in
/-- A range over a function whose value is a closure. -/
theorem range_law {g : Operand} {ps : Array Tmp} {assign body : Code} {n : Nat} {t : Nat → V} {bs : Nat → Option Blk} {lend : Nat → Bool} {f : FuncId} {fi : Func} {c : Code} {caps : List V} {R : Exit → (Nat → Option Blk) → Prop} {Q : Exit → St → Prop}
    (hg : (susp n t bs).ev G g = some (.fn f [] caps)) (ht : ∀ i, okV uTop (t i) = true) (hcap : okL uTop caps = true) (hf : P.funcs[f]? = some fi) (hb : fi.body = some c) (hname : (fi.name == "runtime.NumGoroutine") = false) (hres : fi.results = #[])
    (hlend : ∀ b k, lend b = true → bs b = some k → k.excl = true ∧ ∀ r, r ∈ k.rows → ∀ x, x ∈ r → x.isOwn = false ∧ okV uTop x = true) (hrest : ∀ b k, lend b = false → bs b = some k → ∀ r, r ∈ k.rows → ∀ x, x ∈ r → okV uTop x = true)
    (hi : IterT P G c (max fi.ntmps (1 + caps.length)) (fun l => .yld l :: caps) (fun b => if lend b then bs b else none) n t ps assign body (fun b => if lend b then none else bs b) R)
    (hR : ∀ e b', R e b' → (e = .normal ∨ e = .ret ∨ ∃ id, e = .exit id) ∧ Q e (susp n t b')) (ds : List Deferred) (γ : Gh) (a : Act) (w : World) (hs : Sim G γ (susp n t bs) a.tmps w) (hd : a.defers = ds) :
    CW none P (.rangeFunc g ps assign body) (Lift G ⟨none, ds, true⟩ γ (susp n t bs) w Q) a w := by
  refine wpIn_rangeFunc fun fn _ => ?_
  obtain ⟨fs, cv, hv, l1, l2, p1, p2⟩ := (hs.ev hg).fn_inv
  have hfs : fs = [] := List.length_eq_zero_iff.1 l1
  subst hfs
  -- the world with the record
  obtain ⟨w1, hw1⟩ : ∃ w1, (w.alloc (.deferred (some []))).alloc (.loop (recOf fn a.tmps ps assign body w.heap.size .normal)) = w1 := ⟨_, rfl⟩
  have hL : w1.heap[w.heap.size + 1]? = some (.loop (recOf fn a.tmps ps assign body w.heap.size .normal)) := by
    rw [← hw1]; have := World.alloc_heap_new (w.alloc (.deferred (some []))) (.loop (recOf fn a.tmps ps assign body w.heap.size .normal)); rwa [World.size_alloc] at this
  have hD : w1.heap[w.heap.size]? = some (.deferred (some [])) := by
    rw [← hw1]; exact (heap_alloc _ _ _ (by simp)).trans (World.alloc_heap_new w _)
  have gw : ∀ γ' : Gh, Grow γ' w γ' w1 ∧ CellsSame w w1 := fun γ' => by
    obtain ⟨x1, x2⟩ := Grow.alloc γ' w (.deferred (some []))
    obtain ⟨y1, y2⟩ := Grow.alloc γ' (w.alloc (.deferred (some []))) (.loop (recOf fn a.tmps ps assign body w.heap.size .normal))
    rw [hw1] at y1 y2
    exact ⟨x1.trans y1, x2.trans y2⟩
  -- the two ghosts
  let lent : Nat → Prop := fun B => ∃ b k o, lend b = true ∧ bs b = some k ∧ γ.own B = some (.blk b) ∧ γ.loc b = some (B, o)
  let γi : Gh := { loc := γ.loc, own := fun B => if lent B then γ.own B else none, lim := γ.lim }
  let γr : Gh := { loc := γ.loc, own := fun B => if lent B then none else γ.own B, lim := γ.lim }
  have rep : ∀ (γ' : Gh) (hl : γ'.loc = γ.loc) (hm : γ'.lim = γ.lim) (bs' : Nat → Option Blk), (∀ b, bs' b = none ∨ bs' b = bs b) → ∀ {c : V} {v : Value}, Rep γ w bs uTop c v → okV uTop c = true → Rep γ' w bs' uTop c v := fun γ' hl hm bs' hb' c v h ho =>
    (h.shrink hb' ho).frame (fun B o v h1 h2 => ⟨by rw [hm]; exact h1, h2⟩) (fun _ _ h => h) hl
  have half : ∀ b, (if lend b then bs b else none) = none ∨ (if lend b then bs b else none) = bs b := fun b => by split <;> simp
  have half2 : ∀ b, (if lend b then none else bs b) = none ∨ (if lend b then none else bs b) = bs b := fun b => by split <;> simp
  have cellok : ∀ b k, bs b = some k → ∀ (i : Nat) (x : V), k.rows.flatten[i]? = some x → okV uTop x = true := fun b k hk i x hx => by
    obtain ⟨r, hr1, hr2⟩ := List.mem_flatten.1 (List.mem_of_getElem? hx)
    cases hl : lend b with
    | true => exact ((hlend b k hl hk).2 r hr1 x hr2).2
    | false => exact hrest b k hl hk r hr1 x hr2
  have simr : Sim G γr (susp n t fun b => if lend b then none else bs b) a.tmps w := by
    refine ⟨hs.n, fun i => rep γr rfl rfl _ half2 (hs.t i) (ht i), fun b k hk => ?_, fun b k hk => ?_, hs.g, fun B x hx => ?_⟩
    · have hk' : (if lend b then none else bs b) = some k := hk
      have hlb : lend b = false := by
        cases hl : lend b with
        | true => rw [hl] at hk'; simp at hk'
        | false => rfl
      rw [hlb] at hk'
      have hk2 : bs b = some k := by simpa using hk'
      rcases hs.b b k hk2 with h0 | ⟨B, o, cs, e, a1, a2, a3, a4, a5, a6, a7, a8⟩
      · exact .inl h0
      · have nl : ∀ B' x, γ.own B' = some x → (∀ b', x = .blk b' → lend b' = false) → γr.own B' = some x := fun B' x hx hb' => by
          show (if lent B' then none else γ.own B') = _
          rw [if_neg]; exact hx
          rintro ⟨b', k', o', c1, _, c3, _⟩
          rw [hx] at c3
          have := hb' b' (Option.some.inj c3)
          rw [c1] at this; simp at this
        refine .inr ⟨B, o, cs, e, a1, nl B _ a2 (fun b' hb' => by cases hb'; exact hlb), a3, a4, a5, fun i x hx => ?_, a7, a8⟩
        obtain ⟨y, b1, b2, b3, b4⟩ := a6 i x hx
        refine ⟨y, b1, rep γr rfl rfl _ half2 b2 (cellok b k hk2 i x hx), b3, ?_⟩
        unfold Right at b4 ⊢
        split at b4
        · rcases b4 with b4 | ⟨⟨c1, c2⟩, c3⟩
          · exact .inl b4
          · exact .inr ⟨⟨nl _ _ c1 (fun b' hb' => by cases hb'), c2⟩, c3⟩
        · trivial
    · have hk' : (if lend b then none else bs b) = some k := hk
      rcases half2 b with h | h
      · rw [h] at hk'; simp at hk'
      · rw [h] at hk'; exact hs.u b k hk'
    · have hx' : (if lent B then none else γ.own B) = some x := hx
      split at hx'
      · simp at hx'
      · exact hs.o B x hx'
  have simi : ∀ tm : Array Value, tm.size = max fi.ntmps (1 + caps.length) → (∀ i, Rep γi w (fun b => if lend b then bs b else none) uTop ((V.yld (w.heap.size + 1) :: caps).getD i .undef) (tm.getD i undef)) →
      Sim G γi (entry (max fi.ntmps (1 + caps.length)) (.yld (w.heap.size + 1) :: caps) (fun b => if lend b then bs b else none)) tm w := fun tm hz htm => by
    refine ⟨hz, htm, fun b k hk => ?_, fun b k hk => ?_, hs.g, fun B x hx => ?_⟩
    · have hk' : (if lend b then bs b else none) = some k := hk
      have hlb : lend b = true := by
        cases hl : lend b with
        | true => rfl
        | false => rw [hl] at hk'; simp at hk'
      rw [hlb] at hk'
      have hk2 : bs b = some k := by simpa using hk'
      rcases hs.b b k hk2 with h0 | ⟨B, o, cs, e, a1, a2, a3, a4, a5, a6, a7, a8⟩
      · exact .inl h0
      · refine .inr ⟨B, o, cs, e, a1, ?_, a3, a4, a5, fun i x hx => ?_, a7, a8⟩
        · show (if lent B then γ.own B else none) = _
          rw [if_pos ⟨b, k, o, hlb, hk2, a2, a1⟩]; exact a2
        · obtain ⟨y, b1, b2, b3, b4⟩ := a6 i x hx
          refine ⟨y, b1, rep γi rfl rfl _ half b2 (cellok b k hk2 i x hx), b3, .of_not_own ?_⟩
          obtain ⟨r, hr1, hr2⟩ := List.mem_flatten.1 (List.mem_of_getElem? hx)
          exact ((hlend b k hlb hk2).2 r hr1 x hr2).1
    · have hk' : (if lend b then bs b else none) = some k := hk
      rcases half b with h | h
      · rw [h] at hk'; simp at hk'
      · rw [h] at hk'; exact hs.u b k hk'
    · have hx' : (if lent B then γ.own B else none) = some x := hx
      split at hx'
      · exact hs.o B x hx'
      · simp at hx'
  have env : Env G γ w (susp n t bs) (w.heap.size + 1) w.heap.size a.tmps (susp n t fun b => if lend b then none else bs b) (recOf fn a.tmps ps assign body w.heap.size .normal) γi γr w1 := by
    have hnone : ∀ B, w.heap.size ≤ B → γr.own B = none := fun B hB => by
      cases ho : γr.own B with
      | none => rfl
      | some x => have := simr.o B x ho; omega
    refine ⟨(gw γr).2.sim simr, ?_, fun b _ => ⟨fun h => h, fun h hn => ?_, fun k hk => ⟨hs.u b k hk, ?_⟩⟩, hL, hD, ⟨by omega, by omega, by omega⟩, ⟨hnone _ (by omega), hnone _ (by omega)⟩, fun B x hx => ?_, fun B x hx => Nat.le_refl _⟩
    · have g0 : Grow γ w γr w := ⟨rfl, rfl, rfl, Nat.le_refl _, fun _ _ _ _ h => h, fun _ _ => Nat.le_refl _, fun B _ h => ⟨rfl, by show (if lent B then none else γ.own B) = none; rw [h]; simp, rfl⟩, fun _ cs _ _ h => ⟨cs, h, rfl⟩⟩
      exact g0.trans (gw γr).1
    · have hn' : bs b = none := hn
      show (if lend b then none else bs b) = none
      rw [hn']; simp
    · show (if lend b then none else bs b) = none ∨ _
      cases hl : lend b with
      | true => exact .inl (by simp)
      | false => exact .inr ⟨k, by have hk' : bs b = some k := hk; show (if lend b then none else bs b) = some k; rw [hl]; simpa using hk', rfl, Nat.le_refl _, rfl⟩
    · have hx' : (if lent B then γ.own B else none) = some x := hx
      split at hx'
      · rename_i hlent
        have hlt := hs.o B x hx'
        refine ⟨by show (if lent B then none else γ.own B) = none; rw [if_pos hlent], ?_, .inr (by rw [hx']; simp), by omega, by omega⟩
        obtain ⟨b, k, o, c1, c2, c3, c4⟩ := hlent
        rcases hs.b b k c2 with ⟨h0, _⟩ | ⟨B', o', cs, e, a1, a2, a3, a4, a5, a6, a7, a8⟩
        · rw [h0] at c4; simp at c4
        · have : B' = B := by rw [a1] at c4; simpa using congrArg Prod.fst (Option.some.inj c4)
          subst this
          exact a7 (hlend b k c1 c2).1
      · simp at hx'
  have hbody' : ¬ fi.body = none := by rw [hb]; simp
  have hname' : ¬ fi.name = "runtime.NumGoroutine" := by simpa using hname
  refine ⟨w.heap.size + 1, [markD w.heap.size], w1, { target := .fn (.func f) cv.toArray, args := #[.func (.yield (w.heap.size + 1)) #[] #[]] }, w1, f, #[.func (.yield (w.heap.size + 1)) #[] #[]] ++ cv.toArray, w1, ?_, ?_, fun _ _ => trivial, ?_, fun h => by simp [RF, Fence.wide] at h, ?_⟩
  · rw [← hw1]; exact run_enterLoop_outer _ _ _ _ _
  · have e : (resolve a.eval (rangeCall g (w.heap.size + 1)) 0) = Deferred.ofValue (a.eval g) #[.func (.yield (w.heap.size + 1)) #[] #[]] := by
      simp [resolve, Act.eval]
    rw [e, hv]
    simp [Deferred.ofValue]
  · simp [invoke, callFunc, hf, hname', hbody']
  · refine callsIn_of_wp hf hb trivial ?_
    have key := hi fn γ w (susp n t bs) (w.heap.size + 1) w.heap.size a.tmps γi γr
      { tmps := (#[.func (.yield (w.heap.size + 1)) #[] #[]] ++ cv.toArray) ++ Array.replicate (fi.ntmps - (#[Value.func (.yield (w.heap.size + 1)) #[] #[]] ++ cv.toArray).size) undef, defers := [] } w1 env ?_ rfl
    · refine wpIn_mono key fun e a' w' h => ?_
      obtain ⟨h1, h2, e2, b', γi', γr', h3, h4⟩ := h
      have fin : bodyPost P fi (rangePost (RF none) 0 P (w.heap.size + 1) (Lift G ⟨none, ds, true⟩ γ (susp n t bs) w Q) { a with defers := [markD w.heap.size] ++ a.defers }) .normal a' w' := by
        refine ⟨h2, .tuple #[], ?_, ?_⟩
        · rw [results_eq, hres, Sem.run_bind]; simp [Sem.run_pure]
        · refine ⟨_, _, run_endLoop h4.loop (by unfold recOf; simp only; split <;> simp), ?_⟩
          have h5 := h4.record { recOf fn a.tmps ps assign body w.heap.size e2 with state := .exhausted }
          have lift : ∀ e3 a3, a3.tmps = a.tmps → a3.defers = markD w.heap.size :: ds → Q e3 (susp n t b') → Lift G ⟨none, ds, true⟩ γ (susp n t bs) w Q e3 a3 (w'.putObj (w.heap.size + 1) (.loop { recOf fn a.tmps ps assign body w.heap.size e2 with state := .exhausted })) := fun e3 a3 e1 e2 hq =>
            ⟨susp n t b', γr', by rw [e1]; exact h5.sim, ⟨h5.grow, h5.pin⟩, ⟨[w.heap.size], fun h => by simp at h, by rw [e2]; rfl, by simp, fun D hD => by
              simp only [List.mem_singleton] at hD
              subst hD
              exact ⟨Nat.le_refl _, h5.dfr, h5.ownl.2⟩⟩, hq⟩
          obtain ⟨q1, q2⟩ := hR e2 b' h3
          rcases q1 with rfl | rfl | ⟨id, rfl⟩
          · exact lift .normal _ rfl (by rw [← hd]; rfl) q2
          · exact wpIn_ret (lift .ret _ rfl (by rw [← hd]; rfl) q2)
          · exact wpIn_exit (lift (.exit id) _ rfl (by rw [← hd]; rfl) q2)
      rcases h1 with rfl | rfl
      · exact fin
      · exact fin
    · refine (gw γi).2.sim (simi _ ?_ fun i => ?_)
      · simp; omega
      · have hcv : ∀ j x, caps[j]? = some x → ∃ y, cv[j]? = some y := fun j x hx => by
          have hj := (List.getElem?_eq_some_iff.1 hx).1
          exact ⟨cv[j]'(by omega), List.getElem?_eq_getElem (by omega)⟩
        have e : ((#[Value.func (.yield (w.heap.size + 1)) #[] #[]] ++ cv.toArray) ++ Array.replicate (fi.ntmps - (#[Value.func (.yield (w.heap.size + 1)) #[] #[]] ++ cv.toArray).size) undef).getD i undef = ((.func (.yield (w.heap.size + 1)) #[] #[] :: cv) ++ List.replicate (fi.ntmps - (cv.length + 1)) undef).getD i undef := by
          rw [Array.getD_eq_getD_getElem?, List.getD_eq_getElem?_getD]
          congr 1
          rw [← Array.getElem?_toList]
          simp
        show Rep _ _ _ _ _ (Array.getD _ i undef)
        rw [e]
        cases i with
        | zero => exact .data (.yld _)
        | succ j =>
          simp only [List.getD_cons_succ, List.cons_append]
          cases hx : caps[j]? with
          | none => rw [List.getD_eq_getElem?_getD, hx]; exact .undef _
          | some x =>
            obtain ⟨y, hy⟩ := hcv j x hx
            have hj := (List.getElem?_eq_some_iff.1 hy).1
            rw [List.getD_eq_getElem?_getD, List.getD_eq_getElem?_getD, hx, List.getElem?_append_left hj, hy]
            exact rep γi rfl rfl _ half (p2 j x y hx hy) (okL_get hcap hx)
end

end Go.EV

namespace Go.EV
open Go

/-- How the loop stands (left so, with these blocks), and the iterator's own state. -/
structure YS where
  x : Exit
  b : Nat → Option Blk
  st : St

/-- The loop that is served. -/
structure YL where
  n : Nat
  t : Nat → V
  ps : Array Tmp
  assign : Code
  body : Code

def YPost (G : Nat → Option (List V)) (L : YL) (l : Nat) (fn : FuncId) (γ0 : Gh) (w0 : World) (st0 : St) (D : Nat) (te : Array Value) (Q : Exit → YS → Prop) (e : Exit) (a' : Act) (w' : World) : Prop :=
  a'.defers = [] ∧ ∃ s' γi' γr', Env G γ0 w0 st0 l D te (susp L.n L.t s'.b) (recOf fn te L.ps L.assign L.body D s'.x) γi' γr' w' ∧ Sim G γi' s'.st a'.tmps w' ∧ Q e s'

/-- A triple for an iterator's code. -/
def YT (P : Program) (G : Nat → Option (List V)) (L : YL) (l : Nat) (c : Code) (s : YS) (Q : Exit → YS → Prop) : Prop :=
  ∀ (fn : FuncId) (γ0 : Gh) (w0 : World) (st0 : St) (D : Nat) (te : Array Value) (γi γr : Gh) (a : Act) (w : World),
    Env G γ0 w0 st0 l D te (susp L.n L.t s.b) (recOf fn te L.ps L.assign L.body D s.x) γi γr w → Sim G γi s.st a.tmps w → a.defers = [] →
    CW none P c (YPost G L l fn γ0 w0 st0 D te Q) a w

def thenY (next : YS → Prop) (Q : Exit → YS → Prop) : Exit → YS → Prop
  | .normal, s => next s
  | e, s => Q e s

def inBlockY (id : Nat) (Q : Exit → YS → Prop) : Exit → YS → Prop
  | .exit id', s => if id' = id then Q .normal s else Q (.exit id') s
  | e, s => Q e s

section
variable {P : Program} {G : Nat → Option (List V)} {L : YL} {l : Nat} {s : YS} {Q : Exit → YS → Prop}

theorem YT.mono {c : Code} {Q' : Exit → YS → Prop} (h : YT P G L l c s Q) (hq : ∀ e s, Q e s → Q' e s) : YT P G L l c s Q' := fun fn γ0 w0 st0 D te γi γr a w he hs hd =>
  wpIn_mono (h fn γ0 w0 st0 D te γi γr a w he hs hd) fun _ _ _ ⟨h1, s', γi', γr', h2, h3, h4⟩ => ⟨h1, s', γi', γr', h2, h3, hq _ _ h4⟩

/-- Code without yield. -/
theorem YT.tv {c : Code} {Q1 : Exit → St → Prop} (h : TV P G c s.st Q1) (hq : ∀ e st, Q1 e st → Q e ⟨s.x, s.b, st⟩) : YT P G L l c s Q := fun fn γ0 w0 st0 D te γi γr a w he hs hd =>
  wpIn_mono (h ⟨none, [], false⟩ γi a w hs hd) fun e a' w' hl => by
    obtain ⟨st', γi', h1, ⟨h2, _⟩, ⟨Ds, m0, m1, _⟩, h4⟩ := hl
    obtain ⟨γr', h5⟩ := he.iter h2 h1.o
    exact ⟨by rw [m1, m0 rfl]; rfl, ⟨s.x, s.b, st'⟩, γi', γr', h5, h1, hq e st' h4⟩

theorem YT.seq {x y : Code} (h : YT P G L l x s (thenY (fun s => YT P G L l y s Q) Q)) : YT P G L l (.seq x y) s Q := fun fn γ0 w0 st0 D te γi γr a w he hs hd => by
  refine wpIn_seq (wpIn_mono (h fn γ0 w0 st0 D te γi γr a w he hs hd) fun e a' w' hl => ?_)
  obtain ⟨h1, s', γi', γr', h2, h3, h4⟩ := hl
  cases e with
  | normal => exact h4 fn γ0 w0 st0 D te γi' γr' a' w' h2 h3 h1
  | _ => exact ⟨h1, s', γi', γr', h2, h3, h4⟩

theorem YT.cond {o : Operand} {x y : Code} {b : Bool} (hc : s.st.ev G o = some (.bool b)) (h : YT P G L l (if b then x else y) s Q) : YT P G L l (.cond o x y) s Q := fun fn γ0 w0 st0 D te γi γr a w he hs hd =>
  wpIn_cond ((hs.ev hc).bool_inv) (h fn γ0 w0 st0 D te γi γr a w he hs hd)

theorem YT.block {id : Nat} {c : Code} (h : YT P G L l c s (inBlockY id Q)) : YT P G L l (.block id c) s Q := fun fn γ0 w0 st0 D te γi γr a w he hs hd => by
  refine wpIn_block (wpIn_mono (h fn γ0 w0 st0 D te γi γr a w he hs hd) fun e a' w' hl => ?_)
  obtain ⟨h1, s', γi', γr', h2, h3, h4⟩ := hl
  cases e with
  | exit id' =>
    simp only [inBlockY] at h4
    simp only [Exit.inBlock]
    split
    · rename_i he; rw [if_pos he] at h4; exact ⟨h1, s', γi', γr', h2, h3, h4⟩
    · rename_i he; rw [if_neg he] at h4; exact ⟨h1, s', γi', γr', h2, h3, h4⟩
  | _ => exact ⟨h1, s', γi', γr', h2, h3, h4⟩

theorem YT.skip (h : Q .normal s) : YT P G L l .skip s Q := fun fn γ0 w0 st0 D te γi γr _ w he hs hd => wpIn_skip ⟨hd, s, γi, γr, he, hs, h⟩
theorem YT.exit {id : Nat} (h : Q (.exit id) s) : YT P G L l (.exit id) s Q := fun fn γ0 w0 st0 D te γi γr _ w he hs hd => wpIn_exit ⟨hd, s, γi, γr, he, hs, h⟩
theorem YT.ret (h : Q .ret s) : YT P G L l .ret s Q := fun fn γ0 w0 st0 D te γi γr _ w he hs hd => wpIn_ret ⟨hd, s, γi, γr, he, hs, h⟩

theorem YT.loop {c : Code} (I : Nat → YS → Prop) (round : ∀ n s, I n s → YT P G L l c s (thenY (fun s' => ∃ m, m < n ∧ I m s') Q)) {n : Nat} (h : I n s) : YT P G L l (.loop c) s Q := fun fn γ0 w0 st0 D te γi γr a w he hs hd => by
  refine cw_loopN (fun n a' w' => YPost G L l fn γ0 w0 st0 D te (fun _ s => I n s) .normal a' w') (fun n a' w' hI => ?_) n a w ⟨hd, s, γi, γr, he, hs, h⟩
  obtain ⟨h1, s', γi', γr', h2, h3, h4⟩ := hI
  refine wpIn_mono (round n s' h4 fn γ0 w0 st0 D te γi' γr' a' w' h2 h3 h1) fun e a2 w2 hl => ?_
  obtain ⟨k1, s2, γi2, γr2, k2, k3, k4⟩ := hl
  cases e with
  | normal => obtain ⟨m, hm, hI⟩ := k4; exact ⟨m, hm, k1, s2, γi2, γr2, k2, k3, hI⟩
  | _ => exact ⟨k1, s2, γi2, γr2, k2, k3, k4⟩

/-- The rest of a region. -/
def YTops (P : Program) (G : Nat → Option (List V)) (L : YL) (l : Nat) (ops : Array Oper) (is : List Nat) (s : YS) (Q : Exit → YS → Prop) : Prop :=
  ∀ (fn : FuncId) (γ0 : Gh) (w0 : World) (st0 : St) (D : Nat) (te : Array Value) (γi γr : Gh) (a : Act) (w : World),
    Env G γ0 w0 st0 l D te (susp L.n L.t s.b) (recOf fn te L.ps L.assign L.body D s.x) γi γr w → Sim G γi s.st a.tmps w → a.defers = [] →
    wpOpsIn (RF none) 0 P ops (YPost G L l fn γ0 w0 st0 D te Q) is a w

theorem YT.region {id : Nat} {ops : Array Oper} (h : YTops P G L l ops (List.range ops.size) s Q) : YT P G L l (.region id ops false) s Q := fun fn γ0 w0 st0 D te γi γr a w he hs hd => wpIn_region (h fn γ0 w0 st0 D te γi γr a w he hs hd)

theorem YTops.nil {ops : Array Oper} (h : Q .normal s) : YTops P G L l ops [] s Q := fun fn γ0 w0 st0 D te γi γr a w he hs hd => ⟨hd, s, γi, γr, he, hs, h⟩

theorem YTops.step {ops : Array Oper} {i : Nat} {is : List Nat} {st' : St} (h : stepG P G ops i s.st = some st') (hr : YTops P G L l ops is ⟨s.x, s.b, st'⟩ Q) : YTops P G L l ops (i :: is) s Q := fun fn γ0 w0 st0 D te γi γr a w he hs hd => by
  have h := stepG_spec h
  unfold StepV at h
  simp only [wpOpsIn]
  split at h
  · rename_i hi; rw [hi]; rw [h] at hr; exact hr fn γ0 w0 st0 D te γi γr a w he hs hd
  · rename_i o hi
    rw [hi]
    simp only
    rcases h with ⟨hg, hE⟩ | ⟨hg, hdst, rfl⟩
    · rw [if_pos (guardV_spec hs hg)]
      refine op_in (hE ⟨none, a.defers, false⟩ γi a w hs rfl _ _ fun a' w' γ' h1 h2 hp h3 => h3) (hE ⟨none, [], false⟩ γi a w hs hd _ _ fun a' w' γ' h1 h2 hp h3 => ?_)
      obtain ⟨γr', h5⟩ := he.iter h2 h1.o
      exact hr fn γ0 w0 st0 D te γ' γr' a' w' h5 h1 h3
    · rw [if_neg (by rw [guardV_spec hs hg]; simp)]
      exact ⟨fun _ _ => trivial, hr fn γ0 w0 st0 D te γi γr _ w he (hs.put hdst (v := undef) (.tup [] [] rfl (fun i c v hc => by simp at hc))) (by rw [put_defers]; exact hd)⟩

/-- The call of yield. -/
theorem YTops.yield {ops : Array Oper} {i : Nat} {is : List Nat} {o : Oper} {x : Operand} {xs : Array Operand} {ts : Array TypeId} {cs : List V} {R : Exit → (Nat → Option Blk) → Prop} (hi : ops[i]? = some o) (hgd : o.guard = none)
    (ho : o.op = .call { callee := .value x, args := xs, argTypes := ts }) (hx : s.st.ev G x = some (.yld l)) (hcs : evs (s.st.ev G) xs.toList = some cs) (hf : flatL cs = true) (hdst : dstOk s.st.n o.dst = true)
    (ht : ∀ i, okV uTop (L.t i) = true) (hpn : ∀ p, p ∈ L.ps.toList → p < L.n) (hps : cs.length = L.ps.size) (hsx : s.x = .normal) (hr : RoundT P G L.n L.t L.ps.toList L.assign L.body s.b cs R) (hR : ∀ e b', R e b' → e = .normal ∨ e = .ret ∨ ∃ id, e = .exit id)
    (hn : ∀ e b', R e b' → YTops P G L l ops is ⟨e, b', s.st.put o.dst (.bool (jumpOf e).isNone)⟩ Q) : YTops P G L l ops (i :: is) s Q := fun fn γ0 w0 st0 D te γi γr a w he hs hd => by
  simp only [wpOpsIn, hi]
  have hw : Region.wanted o (yielded ops a.tmps) = true := by unfold Region.wanted; rw [hgd]
  rw [if_pos hw]
  rw [hsx] at he
  exact yield_op ho hx hcs hf hs ht hpn he hps hr hR fun e b' γi' γr' w' h1 h2 h3 => hn e b' h1 fn γ0 w0 st0 D te γi' γr' _ w' h2 (h3.put hdst (.data (.bool _))) (by rw [put_defers]; exact hd)

/-- An iterator's contract from its body's triple. -/
theorem IterT.of {c : Code} {m : Nat} {args : Nat → List V} {bi br : Nat → Option Blk} {R : Exit → (Nat → Option Blk) → Prop}
    (h : ∀ l, YT P G L l c ⟨.normal, br, entry m (args l) bi⟩ (fun e s => (e = .normal ∨ e = .ret) ∧ R s.x s.b)) : IterT P G c m args bi L.n L.t L.ps L.assign L.body br R := fun fn γ0 w0 st0 l D te γi γr a w he hs hd =>
  wpIn_mono (h l fn γ0 w0 st0 D te γi γr a w he hs hd) fun e a' w' hl => by
    obtain ⟨h1, s', γi', γr', h2, h3, h4, h5⟩ := hl
    exact ⟨h4, h1, s'.x, s'.b, γi', γr', h5, h2⟩
end

/-- A triple for code in a function's own frame, marks let by. -/
def TO (P : Program) (G : Nat → Option (List V)) (c : Code) (st : St) (Q : Exit → St → Prop) : Prop :=
  ∀ (ds : List Deferred) (γ : Gh) (a : Act) (w : World), Sim G γ st a.tmps w → a.defers = ds → CW none P c (Lift G ⟨none, ds, true⟩ γ st w Q) a w

section
variable {P : Program} {G : Nat → Option (List V)} {st : St} {Q : Exit → St → Prop}

theorem TO.tv {c : Code} (h : TV P G c st Q) : TO P G c st Q := fun ds γ a w hs hd => h ⟨none, ds, true⟩ γ a w hs hd

theorem TO.mono {c : Code} {Q' : Exit → St → Prop} (h : TO P G c st Q) (hq : ∀ e st, Q e st → Q' e st) : TO P G c st Q' :=
  fun ds γ a w hs hd => wpIn_mono (h ds γ a w hs hd) fun _ _ _ hl => hl.mono hq

theorem TO.seq {x y : Code} (h : TO P G x st (thenV (fun st => TO P G y st Q) Q)) : TO P G (.seq x y) st Q := fun ds γ a w hs hd => by
  refine wpIn_seq (wpIn_mono (h ds γ a w hs hd) fun e a' w' hl => ?_)
  obtain ⟨st', γ', h1, h2, h3, h4⟩ := hl
  cases e with
  | normal => exact wpIn_mono (h4 a'.defers γ' a' w' h1 rfl) fun _ _ _ hl => hl.grow2 h2 h3
  | _ => exact ⟨st', γ', h1, h2, h3, h4⟩

theorem TO.block {id : Nat} {c : Code} (h : TO P G c st (inBlockV id Q)) : TO P G (.block id c) st Q := fun ds γ a w hs hd => by
  refine wpIn_block (wpIn_mono (h ds γ a w hs hd) fun e a' w' hl => ?_)
  obtain ⟨st', γ', h1, h2, h3, h4⟩ := hl
  cases e with
  | exit id' =>
    simp only [inBlockV] at h4
    simp only [Exit.inBlock]
    split
    · rename_i he; rw [if_pos he] at h4; exact ⟨st', γ', h1, h2, h3, h4⟩
    · rename_i he; rw [if_neg he] at h4; exact ⟨st', γ', h1, h2, h3, h4⟩
  | _ => exact ⟨st', γ', h1, h2, h3, h4⟩

theorem TO.scope {c : Code} (h : TO P G c st Q) (hq : ∀ l st, ¬ Q (.goto l) st) : TO P G (.scope c) st Q := fun ds γ a w hs hd => by
  refine cw_scope_straight (wpIn_mono (h ds γ a w hs hd) fun e a' w' hl => ?_)
  cases e with
  | goto l => obtain ⟨st', _, _, _, _, h4⟩ := hl; exact absurd h4 (hq l st')
  | _ => exact hl

theorem TO.ghost {c : Code} {st' : St} (g : Gst G st st') (h : TO P G c st' Q) : TO P G c st Q := fun ds γ a w hs hd => by
  obtain ⟨γ', h1, h2, h3⟩ := g γ a.tmps w hs
  exact wpIn_mono (h ds γ' a w h1 hd) fun _ _ _ hl => hl.grow ⟨h2, h3⟩
end

end Go.EV

namespace Go.EV
open Go

/-- What the kernel checks of a piece of code. -/
def Piece (P : Program) (G : Nat → Option (List V)) (kp : List Nat) (n : Nat) (c : Code) (x : Ext) {ρ : Type} (g : T P G ρ) (E : ρ → Ext) : Prop :=
  (x.ok, sx P G kp 100000 ρ (.mid E) g (.inl c) [] (x.D n)) = (true, g.expect (.mid E))

theorem Piece.tv {P : Program} {G : Nat → Option (List V)} {kp : List Nat} {n : Nat} {c : Code} {x : Ext} {ρ : Type} {g : T P G ρ} {E : ρ → Ext} (h : Piece P G kp n c x g E) (hm : P.follows .mixedOrders = true) {r : ρ} (hr : g.run = some r) (hE : (E r).ok = true) :
    TV P G c (x.D n).st (fun e s => e = (E r).ex ∧ Gst G s ((E r).D n).st) := by
  simp only [Piece, Prod.mk.injEq] at h
  have key : TV P G c (x.D n).st (goal P (.mid E) r n) := sx_ok hm 100000 _ _ _ _ _ _ _ (extD_ok h.1) h.2 hr
  refine key.mono fun e s hg => ?_
  obtain ⟨g1, g2, g3, g4⟩ := hg
  have f := ext_ghost (G := G) (s := s) hE g3 g4
  rw [g2] at f
  exact ⟨g1, f⟩

def tOf (ts : List (Nat × V)) (i : Nat) : V := match ts.find? (fun p => p.1 == i) with | some p => p.2 | none => .undef

/-- A state whose blocks bear outer names. -/
theorem ext_susp {x : Ext} (h : (x.bs.all fun p => decide (1000000 ≤ p.1)) = true) (n : Nat) : (x.D n).st = susp n (tOf x.ts) (ofL x.bs) := by
  have hu : (fun i => x.us.contains i || uTop i) = uTop := funext fun i => by
    cases hu : uTop i with
    | true => simp
    | false =>
      simp only [Bool.or_false]
      refine Bool.eq_false_iff.2 fun hc => ?_
      simp only [Ext.us, List.contains_eq_mem, decide_eq_true_eq] at hc
      obtain ⟨p, hp, rfl⟩ := List.mem_map.1 hc
      have := List.all_eq_true.1 h p hp
      simp [uTop] at hu
      simp at this
      omega
  show (⟨n, tOf x.ts, ofL x.bs, fun i => x.us.contains i || uTop i⟩ : St) = ⟨n, tOf x.ts, ofL x.bs, uTop⟩
  rw [hu]

theorem tOf_ok {ts : List (Nat × V)} (h : (ts.all fun p => okV uTop p.2) = true) (i : Nat) : okV uTop (tOf ts i) = true := by
  unfold tOf
  cases hf : ts.find? (fun p => p.1 == i) with
  | none => rfl
  | some p => exact List.all_eq_true.1 h p (List.mem_of_find?_eq_some hf)

theorem setP_susp (n : Nat) (ts : List (Nat × V)) (b : Nat → Option Blk) (p : Nat) (c : V) : setP (susp n (tOf ts) b) [(p, c)] = susp n (tOf ((p, c) :: ts)) b := by
  unfold setP susp tOf
  simp only [List.foldl, St.setT, St.mk.injEq, true_and, and_true]
  funext i
  rw [List.find?_cons]
  by_cases h : i = p
  · subst h; simp
  · have : (p == i) = false := by simpa using fun e => h e.symm
    rw [if_neg h]
    simp only [this]

theorem entry_ext {args : List V} {x : Ext} (hx : x.ts = argTs args) (hb : (x.bs.all fun p => decide (1000000 ≤ p.1)) = true) (n : Nat) : (x.D n).st = entry n args (ofL x.bs) := by
  rw [ext_susp hb, hx]
  unfold susp entry
  simp only [St.mk.injEq, true_and, and_true]
  exact funext fun i => argTs_find args 0 i

/-- A function's contract from its body's triple, marks let by. -/
theorem callC_of_TO {P : Program} {G : Nat → Option (List V)} {f : FuncId} {fn : Func} {c : Code} {n : Nat} {args : List V} {ins : Nat → Option Blk} {res : V} {outs : Nat → Option Blk}
    (hf : P.funcs[f]? = some fn) (hb : fn.body = some c) (hn : n = max fn.ntmps args.length) (hc : coeV 8 res res = res) (h : TO P G c (entry n args ins) (Done P fn.results.toList res outs)) : CallC P G f args ins res outs :=
  callC_body hf hb hn fun γ a w hs hd => wpIn_mono (h [] γ a w hs hd) fun e a' w' hl => ⟨res, hc, hl⟩

theorem TO.gst {P : Program} {G : Nat → Option (List V)} {c : Code} {st st' : St} {Q : Exit → St → Prop} (g : Gst G st st') (h : TO P G c st' Q) : TO P G c st Q := TO.ghost g h

theorem YT.gst {P : Program} {G : Nat → Option (List V)} {L : YL} {l : Nat} {c : Code} {x : Exit} {b : Nat → Option Blk} {st st' : St} {Q : Exit → YS → Prop} (g : Gst G st st') (h : YT P G L l c ⟨x, b, st'⟩ Q) : YT P G L l c ⟨x, b, st⟩ Q := fun fn γ0 w0 st0 D te γi γr a w he hs hd => by
  obtain ⟨γ', h1, h2, h3⟩ := g γi a.tmps w hs
  obtain ⟨γr', h5⟩ := he.iter h2 h1.o
  exact h fn γ0 w0 st0 D te γ' γr' a w h5 h1 hd

/-- .. behind a piece of code without yield. -/
theorem YT.piece {P : Program} {G : Nat → Option (List V)} {L : YL} {l : Nat} {kp : List Nat} {n : Nat} {c : Code} {x : Ext} {ρ : Type} {g : T P G ρ} {E : ρ → Ext} {y : Exit} {b : Nat → Option Blk} {Q : Exit → YS → Prop}
    (h : Piece P G kp n c x g E) (hm : P.follows .mixedOrders = true) {r : ρ} (hr : g.run = some r) (hE : (E r).ok = true) (hq : ∀ s, Gst G s ((E r).D n).st → Q (E r).ex ⟨y, b, s⟩) : YT P G L l c ⟨y, b, (x.D n).st⟩ Q :=
  YT.tv (h.tv hm hr hE) fun e st hg => by rw [hg.1]; exact hq st hg.2

theorem TO.piece {P : Program} {G : Nat → Option (List V)} {kp : List Nat} {n : Nat} {c : Code} {x : Ext} {ρ : Type} {g : T P G ρ} {E : ρ → Ext} {Q : Exit → St → Prop}
    (h : Piece P G kp n c x g E) (hm : P.follows .mixedOrders = true) {r : ρ} (hr : g.run = some r) (hE : (E r).ok = true) (hq : ∀ s, Gst G s ((E r).D n).st → Q (E r).ex s) : TO P G c (x.D n).st Q :=
  TO.tv ((h.tv hm hr hE).mono fun e st hg => by rw [hg.1]; exact hq st hg.2)

end Go.EV

namespace Go.EV
open Go

def sh (b : Nat) : Nat := 1000000 + b
def un (b : Nat) : Nat := (b / 1000000 - 1) * 1000000 + b % 1000000

theorem un_sh (b : Nat) : un (sh b) = b := by unfold un sh; omega
theorem sh_un {b : Nat} (h : 1000000 ≤ b) : sh (un b) = b := by unfold un sh; omega
theorem le_sh (b : Nat) : 1000000 ≤ sh b := by unfold sh; omega

attribute [irreducible] sh un
theorem uTop_of {b : Nat} (h : 1000000 ≤ b) : uTop b = true := by unfold uTop; exact decide_eq_true h
theorem uTop_sh (b : Nat) : uTop (sh b) = true := uTop_of (le_sh b)

mutual
theorem refsV_ren (s : Nat → Nat) : ∀ c : V, refsV (renV s c) = (refsV c).map s
  | .ref b o l => rfl
  | .ptr b i o => rfl
  | .fn f a c => by simp only [renV, refsV, List.map_append]; rw [refsL_ren s a, refsL_ren s c]
  | .agg l => by simp only [renV, refsV]; exact refsL_ren s l
  | .tup l => by simp only [renV, refsV]; exact refsL_ren s l
  | .int _ _ => rfl
  | .bool _ => rfl
  | .str _ => rfl
  | .nilp => rfl
  | .nilf => rfl
  | .yld _ => rfl
  | .nilsl => rfl
  | .sl _ _ _ => rfl
  | .snap _ => rfl
  | .undef => rfl
theorem refsL_ren (s : Nat → Nat) : ∀ l : List V, refsL (renL s l) = (refsL l).map s
  | [] => rfl
  | c :: l => by simp only [renL, refsL, List.map_append]; rw [refsV_ren s c, refsL_ren s l]
end

mutual
theorem renV_back (s r : Nat → Nat) (h : ∀ b, s (r b) = b) : ∀ c : V, renV s (renV r c) = c
  | .ref b o l => by simp [renV, h]
  | .ptr b i o => by simp [renV, h]
  | .fn f a c => by simp only [renV]; rw [renL_back s r h a, renL_back s r h c]
  | .agg l => by simp only [renV]; rw [renL_back s r h l]
  | .tup l => by simp only [renV]; rw [renL_back s r h l]
  | .int _ _ => rfl
  | .bool _ => rfl
  | .str _ => rfl
  | .nilp => rfl
  | .nilf => rfl
  | .yld _ => rfl
  | .nilsl => rfl
  | .sl _ _ _ => rfl
  | .snap _ => rfl
  | .undef => rfl
theorem renL_back (s r : Nat → Nat) (h : ∀ b, s (r b) = b) : ∀ l : List V, renL s (renL r l) = l
  | [] => rfl
  | c :: l => by simp only [renL]; rw [renV_back s r h c, renL_back s r h l]
end

theorem Blk.ren_back (s r : Nat → Nat) (h : ∀ b, s (r b) = b) (k : Blk) : (k.ren r).ren s = k := by
  obtain ⟨z, e, rows⟩ := k
  simp only [Blk.ren, List.map_map]
  congr 1
  have : (renL s ∘ renL r) = id := funext fun l => renL_back s r h l
  rw [this, List.map_id]

def shB (b : Nat → Option Blk) (i : Nat) : Option Blk := if 1000000 ≤ i then (b (un i)).map (Blk.ren sh) else none

theorem shB_sh (b : Nat → Option Blk) (i : Nat) : shB b (sh i) = (b i).map (Blk.ren sh) := by
  unfold shB
  rw [if_pos (le_sh _), un_sh]

def St.shift (st : St) : St := susp st.n (fun i => renV sh (st.t i)) (shB st.b)

def Owner.sh : Owner → Owner
  | .blk b => .blk (EV.sh b)
  | .nest b i j => .nest (EV.sh b) i j

def Gh.shift (γ : Gh) : Gh where
  loc := fun i => if 1000000 ≤ i then γ.loc (un i) else none
  own := fun B => (γ.own B).map Owner.sh
  lim := γ.lim

theorem Sim.shift {G : Nat → Option (List V)} {γ : Gh} {st : St} {tmps : Array Value} {w : World} (hs : Sim G γ st tmps w) : Sim G γ.shift st.shift tmps w := by
  have loc : ∀ b, γ.shift.loc (sh b) = γ.loc b := fun b => by simp only [Gh.shift]; rw [if_pos (le_sh _), un_sh]
  have tr : ∀ b, Tr γ st.b st.u γ.shift (shB st.b) uTop sh b := fun b => by
    refine ⟨fun k hk => ⟨k.ren sh, by rw [shB_sh, hk]; rfl, rfl, by simp [Blk.ren], loc b⟩, fun hn _ => ⟨by rw [shB_sh, hn]; rfl, uTop_sh b⟩⟩
  refine ⟨hs.n, fun i => Rep.ren (γ1 := γ) (γ2 := γ.shift) (w := w) (w' := w) (bs1 := st.b) (u1 := st.u) (bs2 := shB st.b) (u2 := uTop) (s := sh) (fun B o v h1 h2 => ⟨h1, h2⟩) (fun _ _ h => h) (hs.t i) (fun b _ => tr b), fun b k hk => ?_, fun b k hk => ?_, hs.g, fun B x hx => ?_⟩
  · have hk' : shB st.b b = some k := hk
    unfold shB at hk'
    split at hk'
    · rename_i hb
      obtain ⟨k0, h0, rfl⟩ := Option.map_eq_some_iff.1 hk'
      have := (hs.b _ _ h0).ren (γ2 := γ.shift) (bs2 := shB st.b) (u2 := uTop) (s := sh) (loc _) (fun _ => rfl) (fun B hB => by simp only [Gh.shift, hB]; rfl) (fun B i j hB => by simp only [Gh.shift, hB]; rfl) (fun b' _ => tr b')
      rw [sh_un hb] at this
      exact this
    · simp at hk'
  · have hk' : shB st.b b = some k := hk
    unfold shB at hk'
    split at hk'
    · rename_i hb; exact uTop_of hb
    · simp at hk'
  · simp only [Gh.shift] at hx
    obtain ⟨y, hy, _⟩ := Option.map_eq_some_iff.1 hx
    exact hs.o B y hy

def Owner.un : Owner → Option Owner
  | .blk b => if 1000000 ≤ b then some (.blk (EV.un b)) else none
  | .nest b i j => if 1000000 ≤ b then some (.nest (EV.un b) i j) else none

def Gh.unshift (γ : Gh) : Gh where
  loc := fun i => γ.loc (sh i)
  own := fun B => (γ.own B).bind Owner.un
  lim := γ.lim

/-- All that is told speaks of names in use. -/
structure St.known (st : St) : Prop where
  t : ∀ i, ∀ b, b ∈ refsV (st.t i) → st.u b = true
  b : ∀ i k, st.b i = some k → st.u i = true ∧ ∀ b, b ∈ refsL k.rows.flatten → st.u b = true

theorem Sim.unshift {G : Nat → Option (List V)} {γ : Gh} {st : St} {tmps : Array Value} {w : World} (hs : Sim G γ st.shift tmps w) (hk : st.known) : Sim G γ.unshift st tmps w := by
  have tr : ∀ b0, st.u b0 = true → Tr γ (shB st.b) uTop γ.unshift st.b st.u un (sh b0) := fun b0 hu => by
    rw [Tr, un_sh, shB_sh]
    refine ⟨fun k h => ?_, fun h _ => ⟨by simpa using h, hu⟩⟩
    obtain ⟨k0, h0, rfl⟩ := Option.map_eq_some_iff.1 h
    exact ⟨k0, h0, rfl, by simp [Blk.ren], rfl⟩
  have ownB : ∀ B b0, γ.own B = some (.blk (sh b0)) → γ.unshift.own B = some (.blk b0) := fun B b0 h => by
    simp only [Gh.unshift, h, Option.bind_some, Owner.un]
    rw [if_pos (le_sh _), un_sh]
  have ownN : ∀ B b0 i j, γ.own B = some (.nest (sh b0) i j) → γ.unshift.own B = some (.nest b0 i j) := fun B b0 i j h => by
    simp only [Gh.unshift, h, Option.bind_some, Owner.un]
    rw [if_pos (le_sh _), un_sh]
  refine ⟨hs.n, fun i => ?_, fun b k hb => ?_, fun b k hb => (hk.b b k hb).1, hs.g, fun B x hx => ?_⟩
  · have h0 : Rep γ w (shB st.b) uTop (renV sh (st.t i)) (tmps.getD i undef) := hs.t i
    have h1 := Rep.ren (γ1 := γ) (γ2 := γ.unshift) (w := w) (w' := w) (bs1 := shB st.b) (u1 := uTop) (bs2 := st.b) (u2 := st.u) (s := un) (fun B o v h1 h2 => ⟨h1, h2⟩) (fun _ _ h => h) h0 (fun b hb => by
      rw [refsV_ren] at hb
      obtain ⟨b0, hb0, rfl⟩ := List.mem_map.1 hb
      exact tr b0 (hk.t i b0 hb0))
    rw [renV_back un sh un_sh] at h1
    exact h1
  · have hsb : shB st.b (sh b) = some (k.ren sh) := by rw [shB_sh, hb]; rfl
    have h0 : BlkOk γ w (shB st.b) uTop (sh b) (k.ren sh) := hs.b (sh b) _ hsb
    have h1 := h0.ren (γ2 := γ.unshift) (bs2 := st.b) (u2 := st.u) (s := un) (by show γ.loc (sh (un (sh b))) = _; rw [un_sh]) (fun _ => rfl) (fun B hB => by rw [un_sh]; exact ownB B b hB) (fun B i j hB => by rw [un_sh]; exact ownN B b i j hB)
      (fun b' hb' => by
        have : refsL (k.ren sh).rows.flatten = (refsL k.rows.flatten).map sh := by
          show refsL ((k.rows.map (renL sh)).flatten) = _
          rw [ren_flatten, refsL_ren]
        rw [this] at hb'
        obtain ⟨b0, hb0, rfl⟩ := List.mem_map.1 hb'
        exact tr b0 ((hk.b b k hb).2 b0 hb0))
    rw [un_sh, Blk.ren_back un sh un_sh] at h1
    exact h1
  · simp only [Gh.unshift] at hx
    obtain ⟨y, hy, _⟩ := Option.bind_eq_some_iff.1 hx
    exact hs.o B y hy

theorem Lift.unshift {G : Nat → Option (List V)} {fx : Fx} {γ : Gh} {st : St} {w : World} {Q : Exit → St → Prop} {e : Exit} {a : Act} {w' : World}
    (h : Lift G fx γ.shift st.shift w (fun e s => ∃ s', s = s'.shift ∧ s'.u = st.u ∧ s'.known ∧ Q e s') e a w') (hsu : ∀ b k, st.b b = some k → st.u b = true) : Lift G fx γ st w Q e a w' := by
  obtain ⟨_, γ1, h1, ⟨h2, h3⟩, ⟨Ds, m0, m1, m2, m3⟩, s', rfl, hu, hk, hq⟩ := h
  have none1 : ∀ B, γ1.own B = none → γ1.unshift.own B = none := fun B hB => by simp only [Gh.unshift, hB]; rfl
  refine ⟨s', γ1.unshift, h1.unshift hk, ⟨⟨h2.os, h2.tape, h2.output, h2.size, h2.imm, h2.lim, fun B hB hn => ?_, h2.room⟩, fun b hb => ?_⟩, ⟨Ds, m0, m1, m2, fun D hD => ⟨(m3 D hD).1, (m3 D hD).2.1, none1 D (m3 D hD).2.2⟩⟩, hq⟩
  · obtain ⟨a1, a2, a3⟩ := h2.free B hB (by simp only [Gh.shift, hn]; rfl)
    exact ⟨a1, none1 B a2, a3⟩
  · obtain ⟨p1, p2, p3⟩ := h3 (sh b) (le_sh b)
    refine ⟨fun h => by rw [hu]; exact h, fun h hn => ?_, fun k hk' => ⟨?_, ?_⟩⟩
    · have := p2 (uTop_sh b) (by show shB st.b (sh b) = none; rw [shB_sh, hn]; rfl)
      have h0 : shB s'.b (sh b) = none := this
      rw [shB_sh] at h0
      simpa using h0
    · rw [hu]; exact hsu b k hk'
    · obtain ⟨_, q⟩ := p3 (k.ren sh) (by show shB st.b (sh b) = _; rw [shB_sh, hk']; rfl)
      rcases q with q | ⟨k', q1, q2, q3, q4⟩
      · have h0 : shB s'.b (sh b) = none := q
        rw [shB_sh] at h0
        exact .inl (by simpa using h0)
      · have h0 : shB s'.b (sh b) = some k' := q1
        rw [shB_sh] at h0
        obtain ⟨k0, h00, rfl⟩ := Option.map_eq_some_iff.1 h0
        refine .inr ⟨k0, h00, q2, by simpa [Blk.ren] using q3, ?_⟩
        have q4 : γ1.loc (sh b) = γ.shift.loc (sh b) := q4
        simp only [Gh.shift] at q4
        rw [if_pos (le_sh _), un_sh] at q4
        exact q4
mutual
theorem okV_refs {u : Nat → Bool} : ∀ c : V, (∀ b, b ∈ refsV c → u b = true) → okV u c = true
  | .ref b o l, h => h b (by simp [refsV])
  | .ptr b i o, h => h b (by simp [refsV])
  | .fn f a c, h => by
    simp only [okV, Bool.and_eq_true]
    exact ⟨okL_refs a fun b hb => h b (by simp only [refsV, List.mem_append]; exact .inl hb), okL_refs c fun b hb => h b (by simp only [refsV, List.mem_append]; exact .inr hb)⟩
  | .agg l, h => by simp only [okV]; exact okL_refs l fun b hb => h b (by simpa only [refsV] using hb)
  | .tup l, h => by simp only [okV]; exact okL_refs l fun b hb => h b (by simpa only [refsV] using hb)
  | .int _ _, _ => rfl
  | .bool _, _ => rfl
  | .str _, _ => rfl
  | .nilp, _ => rfl
  | .nilf, _ => rfl
  | .yld _, _ => rfl
  | .nilsl, _ => rfl
  | .sl _ _ _, _ => rfl
  | .snap _, _ => rfl
  | .undef, _ => rfl
theorem okL_refs {u : Nat → Bool} : ∀ l : List V, (∀ b, b ∈ refsL l → u b = true) → okL u l = true
  | [], _ => rfl
  | c :: l, h => by
    simp only [okL, Bool.and_eq_true]
    exact ⟨okV_refs c fun b hb => h b (by simp only [refsL, List.mem_append]; exact .inl hb), okL_refs l fun b hb => h b (by simp only [refsL, List.mem_append]; exact .inr hb)⟩
end

theorem okV_sh : ∀ c : V, okV uTop (renV sh c) = true := fun c => by
  have : ∀ b, b ∈ refsV (renV sh c) → uTop b = true := fun b hb => by
    rw [refsV_ren] at hb
    obtain ⟨b0, _, rfl⟩ := List.mem_map.1 hb
    exact uTop_sh b0
  exact okV_refs _ this

theorem shB_known {b : Nat → Option Blk} {i : Nat} {k : Blk} (h : shB b i = some k) : ∃ k0, b (un i) = some k0 ∧ k = k0.ren sh ∧ i = sh (un i) := by
  unfold shB at h
  split at h
  · rename_i hi
    obtain ⟨k0, h0, rfl⟩ := Option.map_eq_some_iff.1 h
    exact ⟨k0, h0, rfl, (sh_un hi).symm⟩
  · simp at h

theorem renV_isOwn (s : Nat → Nat) (c : V) : (renV s c).isOwn = c.isOwn := by cases c <;> rfl

/-- A range over a function whose value is a closure, in a function's own frame; the rounds and the iterator see the blocks by outer names. -/
theorem TO.range {P : Program} {G : Nat → Option (List V)} {g : Operand} {ps : Array Tmp} {assign body : Code} {st : St} {lend : Nat → Bool} {f : FuncId} {fi : Func} {c : Code} {caps : List V} {R : Exit → (Nat → Option Blk) → Prop} {Q : Exit → St → Prop}
    (hg : st.shift.ev G g = some (.fn f [] caps)) (hcap : okL uTop caps = true) (hf : P.funcs[f]? = some fi) (hb : fi.body = some c) (hname : (fi.name == "runtime.NumGoroutine") = false) (hres : fi.results = #[]) (hu : ∀ b k, st.b b = some k → st.u b = true)
    (hlend : ∀ b k, lend (sh b) = true → st.b b = some k → k.excl = true ∧ ∀ r, r ∈ k.rows → ∀ x, x ∈ r → x.isOwn = false)
    (hi : IterT P G c (max fi.ntmps (1 + caps.length)) (fun l => .yld l :: caps) (fun b => if lend b then shB st.b b else none) st.n (fun i => renV sh (st.t i)) ps assign body (fun b => if lend b then none else shB st.b b) R)
    (hR : ∀ e b', R e b' → (e = .normal ∨ e = .ret ∨ ∃ id, e = .exit id) ∧ ∃ b0, b' = shB b0 ∧ (⟨st.n, st.t, b0, st.u⟩ : St).known ∧ Q e ⟨st.n, st.t, b0, st.u⟩) : TO P G (.rangeFunc g ps assign body) st Q := fun ds γ a w hs hd => by
  have cells : ∀ (k0 : Blk) (r : List V), r ∈ (k0.ren sh).rows → ∀ x, x ∈ r → okV uTop x = true ∧ ∃ r0 x0, r0 ∈ k0.rows ∧ x0 ∈ r0 ∧ x = renV sh x0 := fun k0 r hr x hx => by
    obtain ⟨r0, h1, rfl⟩ := List.mem_map.1 (show r ∈ k0.rows.map (renL sh) from hr)
    rw [renL_eq] at hx
    obtain ⟨x0, h2, rfl⟩ := List.mem_map.1 hx
    exact ⟨okV_sh x0, r0, x0, h1, h2, rfl⟩
  have key := range_law (n := st.n) (t := fun i => renV sh (st.t i)) (bs := shB st.b) (lend := lend) (Q := fun e s => ∃ s', s = s'.shift ∧ s'.u = st.u ∧ s'.known ∧ Q e s') hg (fun i => okV_sh _) hcap hf hb hname hres
    (fun b k hl hk => by
      obtain ⟨k0, h0, rfl, h2⟩ := shB_known hk
      obtain ⟨e1, e2⟩ := hlend (un b) k0 (by rw [← h2]; exact hl) h0
      refine ⟨e1, fun r hr x hx => ?_⟩
      obtain ⟨o1, r0, x0, m1, m2, rfl⟩ := cells k0 r hr x hx
      exact ⟨by rw [renV_isOwn]; exact e2 r0 m1 x0 m2, o1⟩)
    (fun b k _ hk r hr x hx => by
      obtain ⟨k0, h0, rfl, h2⟩ := shB_known hk
      exact (cells k0 r hr x hx).1)
    hi (fun e b' h => by
      obtain ⟨h1, b0, rfl, h2, h3⟩ := hR e b' h
      exact ⟨h1, ⟨st.n, st.t, b0, st.u⟩, rfl, rfl, h2, h3⟩) ds γ.shift a w hs.shift hd
  exact wpIn_mono key fun e a' w' hl => Lift.unshift hl hu

theorem TO.rel {P : Program} {G : Nat → Option (List V)} {c : Code} {st : St} {Q Q' : Exit → St → Prop} (h : TO P G c st Q') (hq : ∀ e s, Q' e s → Rel P G Q e s) : TO P G c st Q := fun ds γ a w hs hd =>
  wpIn_mono (h ds γ a w hs hd) fun e a' w' hl => by
    obtain ⟨st', γ', h1, h2, h3, h4⟩ := hl
    exact (hq e st' h4 ⟨none, a'.defers, true⟩ γ' a' w' h1 rfl).grow2 h2 h3

theorem ofL_cons (p : Nat × Blk) (l : List (Nat × Blk)) (i : Nat) : ofL (p :: l) i = if p.1 = i then some p.2 else ofL l i := by
  unfold ofL
  rw [List.find?_cons]
  by_cases h : p.1 = i
  · simp [h]
  · have : (p.1 == i) = false := by simpa using h
    simp only [this]
    rw [if_neg h]

theorem shB_ofL : ∀ l : List (Nat × Blk), shB (ofL l) = ofL (l.map fun p => (sh p.1, p.2.ren sh))
  | [] => funext fun i => by unfold shB ofL; split <;> rfl
  | p :: l => funext fun i => by
    have ih := congrFun (shB_ofL l) i
    rw [List.map_cons, ofL_cons]
    unfold shB at ih ⊢
    rw [ofL_cons]
    by_cases h : sh p.1 = i
    · subst h
      rw [if_pos rfl, if_pos (le_sh _), un_sh, if_pos rfl]; rfl
    · rw [if_neg h]
      by_cases hi : 1000000 ≤ i
      · rw [if_pos hi] at ih ⊢
        have : ¬ p.1 = un i := fun e => h (by rw [e, sh_un hi])
        rw [if_neg this]; exact ih
      · rw [if_neg hi] at ih ⊢; exact ih

theorem ofL_filter (f : Nat → Bool) : ∀ l : List (Nat × Blk), (fun b => if f b then ofL l b else none) = ofL (l.filter fun p => f p.1)
  | [] => funext fun i => by unfold ofL; split <;> rfl
  | p :: l => funext fun i => by
    have ih : (if f i then ofL l i else none) = ofL (l.filter fun p => f p.1) i := congrFun (ofL_filter f l) i
    cases hp : f p.1 with
    | true =>
      rw [List.filter_cons_of_pos (by simpa using hp), ofL_cons, ofL_cons, ← ih]
      by_cases h : p.1 = i
      · subst h; simp [hp]
      · simp [h]
    | false =>
      rw [List.filter_cons_of_neg (by simp [hp]), ofL_cons, ← ih]
      by_cases h : p.1 = i
      · subst h; simp [hp]
      · simp [h]

theorem ofL_filter2 (f : Nat → Bool) (l : List (Nat × Blk)) : (fun b => if f b then none else ofL l b) = ofL (l.filter fun p => !f p.1) := by
  rw [← ofL_filter (fun b => !f b) l]
  funext b
  cases f b <;> rfl

theorem tOf_cons (p : Nat × V) (l : List (Nat × V)) (i : Nat) : tOf (p :: l) i = if p.1 = i then p.2 else tOf l i := by
  unfold tOf
  rw [List.find?_cons]
  by_cases h : p.1 = i
  · simp [h]
  · have : (p.1 == i) = false := by simpa using h
    simp only [this]
    rw [if_neg h]

theorem tOf_shift : ∀ l : List (Nat × V), (fun i => renV sh (tOf l i)) = tOf (l.map fun p => (p.1, renV sh p.2))
  | [] => rfl
  | p :: l => funext fun i => by
    have ih := congrFun (tOf_shift l) i
    rw [List.map_cons, tOf_cons, tOf_cons, ← ih]
    split <;> rfl

theorem ext_shift (x : Ext) (n : Nat) : (x.D n).st.shift = susp n (tOf (x.ts.map fun p => (p.1, renV sh p.2))) (ofL (x.bs.map fun p => (sh p.1, p.2.ren sh))) := by
  rw [← tOf_shift, ← shB_ofL]
  rfl

end Go.EV

namespace Go.EV
open Go

theorem TVops.eqnil {P : Program} {G : Nat → Option (List V)} {ops : Array Oper} {st : St} {Q : Exit → St → Prop} {i : Nat} {rest : List Nat} {o : Oper} {d : Nat} {t : TypeId} {x y : Operand} {b : TypeId} {own : Bool} {z : Nat} {rows : List (List V)}
    (hi : ops[i]? = some o) (hg : guardV ops st o = some true) (ho : o.op = .binOp .eql t x y b) (hd : o.dst = some d) (hdn : dstOk st.n (some d) = true) (ht : isSliceT P t = true) (hx : st.ev G x = some (.sl own z rows)) (hy : st.ev G y = some .nilsl)
    (h1 : rows = [] → TVops P G ops rest (st.put (some d) (.bool true)) Q) (h2 : TVops P G ops rest (st.put (some d) (.bool false)) Q) : TVops P G ops (i :: rest) st Q := fun fx γ a w hs hdf => by
  simp only [wpOpsIn]
  rw [hi]
  simp only
  rw [if_pos (guardV_spec hs hg)]
  have key : ∀ r : Bool, (execOp a.eval o).run P w = .ok (.value (.bool r)) w → TVops P G ops rest (st.put (some d) (.bool r)) Q → o.wpIn (RF fx.ro) 0 P a w (fun a' w' => wpOpsIn (RF fx.ro) 0 P ops (Lift G fx γ st w Q) rest a' w') (Lift G fx γ st w Q) := fun r hr hT => by
    have hw : ∀ {next : Act → World → Prop} {Q' : Exit → Act → World → Prop}, next (a.put o.dst (.bool r)) w → o.wp P a w next Q' := fun h => by
      unfold Oper.wp; rw [hr]; exact h
    refine op_in (hw (put_defers _ _ _)) (hw ?_)
    rw [hd]
    have := hT fx γ (a.put (some d) (.bool r)) w (hs.put hdn (.data (.bool r))) (by rw [put_defers]; exact hdf)
    exact wpOpsIn_mono (fun e a2 w2 hl => hl.grow (st := st) ⟨.refl γ w, Pin.refl hs.u⟩) rest _ w this
  have ev : execOp a.eval o = (do let v ← (do eqGuard .eql t x y (a.eval x) (a.eval y); binOp .eql t (a.eval x) (a.eval y)); pure (.value v)) := by simp only [execOp, ho]
  have yv := (hs.ev hy).nilsl_inv
  obtain ⟨e, hu⟩ : ∃ e, P.underlying t = some (.slice e) := by unfold isSliceT at ht; split at ht <;> simp_all
  rcases (hs.ev hx).sl_inv with ⟨a0, xv, hr⟩ | ⟨B, o', cap, vs, xv, -, -, -, -⟩
  · cases a0 with
    | some a0 =>
      refine key false ?_ h2
      rw [ev, xv, yv, Sem.run_bind]
      have := (run_eql_op (P := P) (w := w) (t := t) (x := .slice (some a0) 0 0) (y := .slice none 0 0) (r := false) x y (fun op => by cases op <;> simp [eqGuard]) (fun d => by simp [Op.equalIn, run_underlying hu]) rfl rfl).1
      rw [this]; rfl
    | none =>
    refine key true ?_ (h1 hr)
    rw [ev, xv, yv, Sem.run_bind]
    have := (run_eql_op (P := P) (w := w) (t := t) (x := .slice none 0 0) (y := .slice none 0 0) (r := true) x y (fun op => by cases op <;> simp [eqGuard]) (fun d => by simp [Op.equalIn, run_underlying hu]) rfl rfl).1
    rw [this]; rfl
  · refine key false ?_ h2
    rw [ev, xv, yv, Sem.run_bind]
    have := (run_eql_op (P := P) (w := w) (t := t) (x := .slice (some ⟨B, o', none⟩) rows.length cap) (y := .slice none 0 0) (r := false) x y (fun op => by cases op <;> simp [eqGuard]) (fun d => by simp [Op.equalIn, run_underlying hu]) rfl rfl).1
    rw [this]; rfl

/-- A state told by a few of its temps. -/
theorem forget_ts {st : St} {n : Nat} {ts : List (Nat × V)} (hn : st.n = n) (hu : ∀ b, 1000000 ≤ b → st.u b = true) (ht : ∀ p, p ∈ ts → st.t p.1 = p.2 ∧ okV uTop p.2 = true) : Forget st ((Ext.lit .normal ts []).D n).st where
  n := hn.symm
  t := fun i => by
    show (match ts.find? (fun p => p.1 == i) with | some p => p.2 | none => .undef) = _ ∨ _
    cases hf : ts.find? (fun p => p.1 == i) with
    | none => exact .inl rfl
    | some p =>
      obtain ⟨h1, h2⟩ := find_mem hf
      obtain ⟨h3, h4⟩ := ht p h1
      subst h2
      refine .inr ⟨?_, okV_mono (u := uTop) (fun b hb => ?_) _ (by rw [h3]; exact h4)⟩
      · show (match ts.find? (fun q => q.1 == p.1) with | some p => p.2 | none => .undef) = _
        rw [hf]; exact h3.symm
      · rw [D.st_u]; exact okU_top (of_decide_eq_true hb)
  b := fun _ => .inl rfl
  p := fun b hb => by rw [D.st_u]; exact okU_top hb

/-- The test on nil in slices.Clone. -/
def eqNilAt (ops : Array Oper) : Option TypeId := match ops[1]? with
  | some o => match o.op, o.dst, o.guard with
    | .binOp .eql t (.tmp 3) (.const (.slice none 0 0)) _, some 4, none => some t
    | _, _, _ => none
  | none => none

theorem eqNilAt_spec {ops : Array Oper} {t : TypeId} (h : eqNilAt ops = some t) : ∃ (o : Oper) (tb : TypeId), ops[1]? = some o ∧ o.op = .binOp .eql t (.tmp 3) (.const (.slice none 0 0)) tb ∧ o.dst = some 4 ∧ o.guard = none := by
  unfold eqNilAt at h
  split at h
  · rename_i o h1
    split at h
    · rename_i h2 h3 h4
      simp only [Option.some.injEq] at h; subst h
      exact ⟨o, _, h1, h2, h3, h4⟩
    · simp at h
  · simp at h

def cloneOps0 : Option Code → Array Oper
  | some (.seq (.region _ o _) _) => o
  | _ => #[]
def cloneOps1 : Option Code → Array Oper
  | some (.seq _ (.seq (.seq (.region _ o _) _) _)) => o
  | _ => #[]
def cloneYes : Option Code → Code
  | some (.seq _ (.seq (.seq _ (.cond _ c _)) _)) => c
  | _ => .skip
def cloneRest : Option Code → Code
  | some (.seq _ (.seq _ c)) => c
  | _ => .skip

/-- slices.Clone. -/
theorem clone_ok {P : Program} {G : Nat → Option (List V)} {f : FuncId} {fn : Func} {yes rest : Code} {ops0 ops1 : Array Oper} {t : TypeId} {z : Nat} {α : Type} {ty : Ty α} {l : List α} {kp : List Nat} {ρ : Type} {g : T P G ρ} {r : ρ} {hx : ([].all fun (p : Nat × Blk) => !([BT.of 7 ty z ([] ++ l)].any fun x => x.id == p.1)) = true}
    (hm : P.follows .mixedOrders = true) (hf : P.funcs[f]? = some fn) (hb : fn.body = some (.seq (.region 0 ops0 false) (.seq (.seq (.region 1 ops1 false) (.cond (.tmp 4) yes .skip)) rest)))
    (hn : 8 = max fn.ntmps 1) (hr : fn.results.toList = [.tmp 2]) (z0 : ops0.size = 1) (z1 : ops1.size = 2)
    (h0 : stepG P G ops0 0 (entry 8 [.sl false z (l.map ty.c)] fun _ => none) = some ((entry 8 [.sl false z (l.map ty.c)] fun _ => none).put (some 2) .nilsl))
    (h1 : stepG P G ops1 0 ((entry 8 [.sl false z (l.map ty.c)] fun _ => none).put (some 2) .nilsl) = some (((entry 8 [.sl false z (l.map ty.c)] fun _ => none).put (some 2) .nilsl).put (some 3) (.sl false z (l.map ty.c))))
    (hq : eqNilAt ops1 = some t) (ht : isSliceT P t = true)
    (kY : Piece P G [2] 8 yes (Ext.lit .normal [(2, .nilsl)] []) (.done () : T P G Unit) (fun _ => Ext.lit .ret [(2, .nilsl)] []))
    (kR : Piece P G kp 8 rest (Ext.lit .normal [(0, .sl false z (l.map ty.c)), (2, .nilsl)] []) g (fun _ => Ext.of .ret [(2, .ref 7 0 ([] ++ l).length)] [] [BT.of 7 ty z ([] ++ l)] hx))
    (hE : (Ext.of .ret [(2, .ref 7 0 ([] ++ l).length)] [] [BT.of 7 ty z ([] ++ l)] hx).ok = true) (hrun : g.run = some r) :
    CallC P G f [.sl false z (l.map ty.c)] (ofL []) (.ref 7 0 ([] ++ l).length) (ofL [(7, ⟨z, true, ([] ++ l).map ty.c⟩)]) := by
  obtain ⟨o, tb, hi, ho, hd, hg⟩ := eqNilAt_spec hq
  refine callC_of_TO (n := 8) hf hb hn (by rfl) (TO.tv ?_)
  rw [hr]
  have e0 : ofL [] = (fun _ => none : Nat → Option Blk) := rfl
  rw [e0]
  refine TV.seq (TV.region ?_)
  rw [z0]
  refine TVops.cons (stepG_spec h0) (TVops.nil ?_)
  show TV P G _ _ _
  refine TV.seq (TV.seq (TV.region ?_))
  rw [z1]
  refine TVops.cons (stepG_spec h1) ?_
  refine TVops.eqnil (rows := l.map ty.c) (own := false) (z := z) hi (by unfold guardV; rw [hg]) ho hd rfl ht rfl rfl (fun hnil => TVops.nil ?_) (TVops.nil ?_)
  · -- nil
    have hl : l = [] := List.map_eq_nil_iff.1 hnil
    subst hl
    show TV P G _ _ _
    refine TV.cond (t := true) rfl ?_
    refine TV.ghost (Gst.forget (forget_ts (n := 8) (ts := [(2, .nilsl)]) rfl (fun b hb => by simp [entry, St.put, St.setT, uTop, hb]) (fun p hp => ?_))) ?_
    · simp only [List.mem_singleton] at hp; subst hp; exact ⟨rfl, rfl⟩
    refine TV.rel (kY.tv hm (r := ()) rfl rfl) fun e s he => ?_
    obtain ⟨rfl, hs⟩ := he
    refine Rel.ghost hs (Rel.ghost (Gst.virtT (d := 7) (t := 2) z rfl rfl) (Rel.of ?_))
    show Done P _ _ _ _ _
    refine ⟨.inr rfl, rfl, fun b k hk => ?_⟩
    simp only [ofL, List.find?] at hk
    split at hk
    · rename_i x hx'
      split at hx'
      · rename_i hb'
        simp only [Option.some.injEq] at hx' hk
        subst hx'; subst hk
        have : (7 : Nat) = b := by simpa using hb'
        subst this; rfl
      · simp at hx'
    · simp at hk
  · show TV P G _ _ _
    refine TV.cond (t := false) rfl (TV.skip ?_)
    show TV P G _ _ _
    refine TV.ghost (Gst.forget (forget_ts (n := 8) (ts := [(0, .sl false z (l.map ty.c)), (2, .nilsl)]) rfl (fun b hb => by simp [entry, St.put, St.setT, uTop, hb]) (fun p hp => ?_))) ?_
    · simp only [List.mem_cons, List.not_mem_nil, or_false] at hp
      rcases hp with rfl | rfl
      · exact ⟨rfl, rfl⟩
      · exact ⟨rfl, rfl⟩
    refine TV.rel (kR.tv hm hrun hE) fun e s he => ?_
    obtain ⟨rfl, hs⟩ := he
    refine Rel.ghost hs (Rel.of ?_)
    show Done P _ _ _ _ _
    refine ⟨.inr rfl, rfl, fun b k hk => ?_⟩
    exact hk

end Go.EV
