/- The value-level logic: a call that leaves the blocks that it sees as they were; no conditions but those that the rule names.
   Ranges over functions: a function's value with first arguments (a method value); no conditions but that the iterator's contract is given.
   The value-level logic: a range over a map whose rounds come out alike in whatever order they are made. Conditions: the map is not touched in the rounds; its values are numbers. -/
import Derived.Test.YtioobnkmohikjaaGreatDoorY6
import Derived.Maps.RangeRun
import Derived.KernelRfl
namespace Go.EV
open Go
theorem evs_vals {G : Nat → Option (List V)} {γ : Gh} {st : St} {a : Act} {w : World} (hs : Sim G γ st a.tmps w) : ∀ (xs : List Operand) (vs : List V), xs.length = vs.length → (∀ p, p ∈ xs.zip vs → Evs G st p.1 p.2) →
  CellsR γ w st.b st.u vs (xs.map a.eval).toArray
 | [], [], _, _ => ⟨rfl, fun i c v hc => by simp at hc⟩
 | x :: xs, v :: vs, hl, h => by
  have ih := evs_vals hs xs vs (by simpa using hl) fun p hp => h p (by simp [hp])
  refine ⟨by have := ih.1; simp at this ⊢; exact this, fun i c y hc hy => ?_⟩
  cases i with
  | zero =>
   simp at hc hy
   subst hc; subst hy
   exact h (x, v) (by simp) γ a w hs
  | succ i => exact ih.2 i c y (by simpa using hc) (by simpa using hy)
 | [], _ :: _, hl, _ => by simp at hl
 | _ :: _, [], hl, _ => by simp at hl
abbrev CB := Nat × Nat × Blk
def cbOf (lits : List CB) (typs : List (Nat × BT)) : List CB := lits ++ typs.map fun y => (y.1, y.2.id, y.2.k)
def Rule.callRead {P : Program} {G : Nat → Option (List V)} {α : Type} (S : Spec P G α) (x : Operand) (xs : Array Operand) (ts : Array TypeId) (d : Nat) (first vs caps : List V) (lits : List CB) (typs : List (Nat × BT)) (Li : List (Nat × Nat))
    (hLi : (cbOf lits typs).map (fun y => (y.1, y.2.1)) = Li) (hids : idsOk Li [] [] = true) (hxs : xs.toList.length = vs.length)
    (hfn : (P.funcs[S.f]?).any (fun fn => !(fn.name == "runtime.NumGoroutine") && fn.body.isSome) = true)
    (hargs : renL (toCallee Li) (first ++ vs ++ caps) = S.args) (hra : (refsL (first ++ vs ++ caps)).all (fun b => Li.any fun y => y.2 == b) = true)
    (hins : lits.map (fun y => (y.1, y.2.2.ren (toCallee Li))) ++ typs.map (fun y => (y.1, y.2.k)) = S.ins)
    (hrl : (lits.all fun y => (refsL y.2.2.rows.flatten).all fun b => Li.any fun z => z.2 == b) = true) (hrc : (lits.all fun y => (refsL (y.2.2.ren (toCallee Li)).rows.flatten).all fun b => Li.any fun z => z.1 == b) = true)
    (hback : lits.map (fun y => (y.2.2.ren (toCallee Li)).ren (toCaller Li)) = lits.map (·.2.2)) (houts : ∀ r, S.outs r = S.ins) (hres : ∀ r, renV (toCaller Li) (S.res r) = S.res r ∧ refsV (S.res r) = []) : Rule P G α where
  op := .call { callee := .value x, args := xs, argTypes := ts }
  dst := some d
  vals := (x, .fn S.f first caps) :: xs.toList.zip vs
  blks := (cbOf lits typs).map (·.2)
  o := S.o
  ws := fun r => [.t d (S.res r)]
  dt := []
  dat := fun _ _ _ _ h => by simp at h
  ok := fun q ho o st hop hdst hvs hbs hd => by
    obtain ⟨hdn, _⟩ := hd d rfl
    obtain ⟨fn, hf, hf2⟩ : ∃ fn, P.funcs[S.f]? = some fn ∧ (!(fn.name == "runtime.NumGoroutine") && fn.body.isSome) = true := by
      cases h : P.funcs[S.f]? with
      | none => rw [h] at hfn; simp at hfn
      | some fn => rw [h] at hfn; exact ⟨fn, rfl, by simpa using hfn⟩
    simp only [Bool.and_eq_true, Bool.not_eq_true'] at hf2
    have hnone : fn.body.isNone = false := by cases hb : fn.body with
      | none => rw [hb] at hf2; simp at hf2
      | some c => rfl
    simp only [idsOk, List.append_nil, Bool.and_eq_true, List.all_eq_true, beq_iff_eq, decide_eq_true_eq, Bool.not_eq_true'] at hids
    obtain ⟨⟨⟨i1, i2⟩, i3⟩, i4⟩ := hids
    have cr : ∀ y, y ∈ Li → toCaller Li y.1 = y.2 := fun y hy => (i1 y hy).1.1
    have ce : ∀ y, y ∈ Li → toCallee Li y.2 = y.1 := fun y hy => (i1 y hy).1.2
    have memAny : ∀ {c : Nat}, (Li.any fun y => y.1 == c) = true → ∃ y, y ∈ Li ∧ y.1 = c := fun h => by
      obtain ⟨y, hy, e⟩ := List.any_eq_true.1 h; exact ⟨y, hy, by simpa using e⟩
    have memAny2 : ∀ {c : Nat}, (Li.any fun y => y.2 == c) = true → ∃ y, y ∈ Li ∧ y.2 = c := fun h => by
      obtain ⟨y, hy, e⟩ := List.any_eq_true.1 h; exact ⟨y, hy, by simpa using e⟩
    have anyMem : ∀ {y : Nat × Nat}, y ∈ Li → (Li.any fun z => z.1 == y.1) = true := fun h => List.any_eq_true.2 ⟨_, h, by simp⟩

    have hins2 : S.ins = (cbOf lits typs).map fun y => (y.1, y.2.2.ren (toCallee Li)) := by
      rw [← hins, cbOf, List.map_append, List.map_map]
      congr 1
      exact List.map_congr_left fun y _ => by show (y.1, y.2.k) = (y.1, y.2.k.ren (toCallee Li)); rw [y.2.dat.ren]
    have blk : ∀ y, y ∈ Li → ∃ z, z ∈ cbOf lits typs ∧ z.1 = y.1 ∧ z.2.1 = y.2 := fun y hy => by
      rw [← hLi] at hy
      obtain ⟨z, hz, rfl⟩ := List.mem_map.1 hy
      exact ⟨z, hz, rfl, rfl⟩
    have inLi : ∀ z, z ∈ cbOf lits typs → (z.1, z.2.1) ∈ Li := fun z hz => by rw [← hLi]; exact List.mem_map.2 ⟨z, hz, rfl⟩
    have same : ∀ z z', z ∈ cbOf lits typs → z' ∈ cbOf lits typs → z.1 = z'.1 → st.b z.2.1 = st.b z'.2.1 := fun z z' h h' e => by
      have a1 := cr _ (inLi z h)
      have a2 := cr _ (inLi z' h')
      simp only at a1 a2
      rw [← a1, ← a2, e]
    have hb : ∀ z, z ∈ cbOf lits typs → st.b z.2.1 = some z.2.2 := fun z hz => hbs z.2 (List.mem_map.2 ⟨z, hz, rfl⟩)
    have hofL : ∀ z, z ∈ cbOf lits typs → ofL S.ins z.1 = some (z.2.2.ren (toCallee Li)) := fun z hz => by
      rw [hins2]
      unfold ofL
      cases hf : ((cbOf lits typs).map fun y => (y.1, y.2.2.ren (toCallee Li))).find? (fun x => x.1 == z.1) with
      | none =>
        have := List.find?_eq_none.1 hf (z.1, z.2.2.ren (toCallee Li)) (List.mem_map.2 ⟨z, hz, rfl⟩)
        simp at this
      | some p =>
        obtain ⟨z0, hz0, rfl⟩ := List.mem_map.1 (List.mem_of_find?_eq_some hf)
        have e : z0.1 = z.1 := by simpa using List.find?_some hf
        have := same z0 z hz0 hz e
        rw [hb z0 hz0, hb z hz] at this
        simp only [Option.some.injEq] at this
        simp only [this]
    have hback2 : ∀ z, z ∈ cbOf lits typs → (z.2.2.ren (toCallee Li)).ren (toCaller Li) = z.2.2 := fun z hz => by
      rcases List.mem_append.1 hz with h | h
      · exact List.map_inj_left.1 hback z h
      · obtain ⟨y, _, rfl⟩ := List.mem_map.1 h
        show (y.2.k.ren _).ren _ = y.2.k
        rw [y.2.dat.ren, y.2.dat.ren]
    have hrl2 : ∀ z, z ∈ cbOf lits typs → ∀ b, b ∈ refsL z.2.2.rows.flatten → (Li.any fun y => y.2 == b) = true := fun z hz b hm => by
      rcases List.mem_append.1 hz with h | h
      · exact List.all_eq_true.1 (List.all_eq_true.1 hrl z h) b hm
      · obtain ⟨y, _, rfl⟩ := List.mem_map.1 h
        rw [y.2.dat.refs] at hm; simp at hm
    have hrc2 : ∀ z, z ∈ cbOf lits typs → ∀ b, b ∈ refsL (z.2.2.ren (toCallee Li)).rows.flatten → (Li.any fun y => y.1 == b) = true := fun z hz b hm => by
      rcases List.mem_append.1 hz with h | h
      · exact List.all_eq_true.1 (List.all_eq_true.1 hrc z h) b hm
      · obtain ⟨y, _, rfl⟩ := List.mem_map.1 h
        have hm' : b ∈ refsL (y.2.k.ren (toCallee Li)).rows.flatten := hm
        rw [y.2.dat.ren, y.2.dat.refs] at hm'; simp at hm'
    intro fx γ a w hs had next Q hn
    have key := effO_callS (P := P) (G := G) (o := o) (st0 := st) (st := st) (f := S.f) (cs := first ++ vs ++ caps) (res := S.res q) (ins := ofL S.ins) (outs := ofL (S.outs q)) (K := fun c => Li.any fun y => y.1 == c) (Kin := fun c => Li.any fun y => y.1 == c) (toCaller Li) (toCallee Li)
      (fun γ a w hsim => by
        have hx := hvs (x, .fn S.f first caps) (by simp) γ a w hsim
        obtain ⟨fs, cv, hv, l1, l2, p1, p2⟩ := hx.fn_inv
        have hm := evs_vals hsim xs.toList vs hxs fun p hp => hvs p (by simp [hp])
        have k : (xs.toList.map a.eval).toArray = xs.map a.eval := Array.ext' (by rw [Array.toList_map])
        rw [k] at hm
        exact ⟨γ, _, hsim, .refl γ w, .refl hsim.u, run_call hop hv hf hf2.1 hnone, (CellsR.append (CellsR.append ⟨by simpa using l1, fun i c v hc hx => p1 i c v hc (by simpa using hx)⟩ hm) ⟨by simpa using l2, fun i c v hc hx => p2 i c v hc (by simpa using hx)⟩)⟩)
      (fun c hK => by obtain ⟨y, hy, rfl⟩ := memAny hK; rw [cr y hy, ce y hy])
      (fun c hK => by
        obtain ⟨y, hy, rfl⟩ := memAny hK
        exact ⟨anyMem hy, i2 y hy⟩)
      (fun c hK => by
        obtain ⟨y, hy, rfl⟩ := memAny hK
        obtain ⟨z, hz, z1, z2⟩ := blk y hy
        refine ⟨z.2.2, by rw [cr y hy, ← z2]; exact hb z hz, by rw [← z1]; exact hofL z hz, fun b hbk => ?_⟩
        obtain ⟨u, hu, rfl⟩ := memAny2 (hrl2 z hz b hbk)
        rw [ce u hu, cr u hu]
        exact ⟨anyMem hu, rfl⟩)
      (fun c hK => by
        cases hf : ofL S.ins c with
        | none => rfl
        | some k =>
          have := ofL_some hf
          rw [hins2] at this
          obtain ⟨z, hz, e⟩ := List.mem_map.1 this
          simp only [Prod.mk.injEq] at e
          have h3 := anyMem (inLi z hz)
          simp only [e.1] at h3
          rw [hK] at h3; simp at h3)
      (fun c hK hKi => by rw [hK] at hKi; simp at hKi)
      (fun c k hk => by
        rw [houts] at hk
        have := ofL_some hk
        rw [hins2] at this
        obtain ⟨z, hz, e⟩ := List.mem_map.1 this
        simp only [Prod.mk.injEq] at e
        obtain ⟨rfl, rfl⟩ := e
        exact ⟨anyMem (inLi z hz), fun b hbk => hrc2 z hz b hbk⟩)
      (fun b hbr => by rw [(hres q).2] at hbr; simp at hbr)
      (fun b hbr => by
        obtain ⟨u, hu, rfl⟩ := memAny2 (List.all_eq_true.1 hra b hbr)
        rw [ce u hu, cr u hu]
        exact ⟨anyMem hu, rfl⟩)
      (by rw [hargs]; exact S.ok q ho) (by rw [hdst]; simpa [dstOk] using hdn)
    have hst : st.after (fun j => (Li.any fun y => y.1 == toCallee Li j) && (toCaller Li (toCallee Li j) == j)) (toCallee Li) (toCaller Li) (ofL (S.outs q)) = st := by
      refine St.ext' rfl fun l => ?_
      cases l with
      | t i => exact rfl
      | b j =>
        cases hJ : ((Li.any fun y => y.1 == toCallee Li j) && (toCaller Li (toCallee Li j) == j)) with
        | false => exact ⟨by simp only [St.after, hJ]; rfl, by simp only [St.after, hJ]; rfl⟩
        | true =>
          have hJ' := hJ
          simp only [Bool.and_eq_true, beq_iff_eq] at hJ'
          obtain ⟨y, hy, e⟩ := memAny hJ'.1
          obtain ⟨z, hz, z1, z2⟩ := blk y hy
          have ej : z.2.1 = j := by rw [z2, ← cr y hy, e]; exact hJ'.2
          have hbz := hb z hz
          rw [ej] at hbz
          refine ⟨?_, ?_⟩
          · simp only [St.after, hJ, if_true]
            rw [houts, ← e, ← z1, hofL z hz, hbz]
            simp only [Option.map_some, hback2 z hz]
          · simp only [St.after, hJ, Bool.true_or]
            exact (hs.u j _ hbz).symm
    rw [hst, (hres q).1] at key
    refine key fx γ a w hs had next Q fun a' w' γ' h1 h2 h3 h4 => hn a' w' γ' ?_ h2 ?_ h4
    · rw [hdst] at h1; exact h1
    · rw [hdst] at h3; exact h3
end Go.EV
namespace Go.EV
open Go
section
variable {P : Program} {G : Nat → Option (List V)}
theorem range_lawF {g : Operand} {L : YL} {bs : Nat → Option Blk} {f : FuncId} {fi : Func} {c : Code} {first caps : List V} {R : Exit → (Nat → Option Blk) → Prop} {Q : Exit → St → Prop}
  (hg : (susp L.n L.t bs).ev G g = some (.fn f first caps)) (ht : ∀ i, okV uPin (L.t i) = true) (hf : P.funcs[f]? = some fi) (hb : fi.body = some c) (hname : (fi.name == "runtime.NumGoroutine") = false) (hres : fi.results = #[])
  (hi : IterT P G c (max fi.ntmps (first.length + 1 + caps.length)) (fun l => first ++ .yld l :: caps) bs L R)
  (hR : ∀ e b', R e b' → (e = .normal ∨ e = .ret ∨ ∃ id, e = .exit id) ∧ Q e (susp L.n L.t b')) : TV P G (.rangeFunc g L.ps L.assign L.body) (susp L.n L.t bs) Q := fun fx γ a w hs hx => by
 refine wpIn_rangeFunc fun fn _ => ?_
 obtain ⟨fs, cv, hv, l1, l2, p1, p2⟩ := (hs.ev hg).fn_inv
 obtain ⟨l, D, Ds, w1, hrun, hnd, hL, gw, hown, hlo, hdf⟩ := enter_law (P := P) (L := L) fn hs hx
 have env : Env G L γ w bs l D Ds w1.heap.size a.tmps (recOf fn a.tmps L.ps L.assign L.body D .normal) γ bs uTop w1 :=
  ⟨hs, gw.1, Pin.refl hs.u, hL, hown, ⟨hlo.1, hlo.2, gw.1.size, Nat.le_refl _⟩, hdf⟩
 have hbody' : ¬ fi.body = none := by rw [hb]; simp
 have hname' : ¬ fi.name = "runtime.NumGoroutine" := by simpa using hname
 refine ⟨l, Ds.map markD, w1, { target := .fn (.func f) cv.toArray, args := fs.toArray ++ #[Value.func (Fn.yield l) #[] #[]] }, w1, f, fs.toArray ++ #[Value.func (Fn.yield l) #[] #[]] ++ cv.toArray, w1, hrun, ?_, fun _ _ => trivial, ?_, fun h => by simp [RF, Fence.wide] at h, ?_⟩
 ·have e : (resolve a.eval (rangeCall g l) 0) = Deferred.ofValue (a.eval g) #[.func (.yield l) #[] #[]] := by
   simp [resolve, Act.eval]
  rw [e, hv]
  simp [Deferred.ofValue]
 ·simp [invoke, callFunc, hf, hname', hbody']
 ·refine calls_in ((callsIn_wide (n := 0)).1 (callsIn_of_wp_marks hf hb trivial ?_))
  have key := hi fn γ w bs l D Ds w1.heap.size a.tmps γ
   { tmps := (fs.toArray ++ #[Value.func (Fn.yield l) #[] #[]] ++ cv.toArray) ++ Array.replicate (fi.ntmps - (fs.toArray ++ #[Value.func (Fn.yield l) #[] #[]] ++ cv.toArray).size) undef, defers := [] } w1 env ?_ rfl
  ·refine wpIn_mono key fun e a' w' h => ?_
   obtain ⟨h1, e2, b', γ', ni, ti, tm, h3, h4, h5, Es, k1, k2, k3⟩ := h
   have fin : LeavesInM (RF none) 0 P fi a'.tmps (rangePost (RF fx.ro) 0 P l (Lift G fx γ (susp L.n L.t bs) w Q) { a with defers := Ds.map markD ++ a.defers }) a'.defers .returning w' := by
    rw [k1]
    refine leaves_marks (fun w'' => Env G L γ w bs l D Ds w1.heap.size a.tmps (recOf fn a.tmps L.ps L.assign L.body D e2) γ' b' uTop w'' ∧ Sim G γ' (susp ni ti b') tm w'') (fun w'' hI => ?_) Es w' ⟨h4, h5⟩ k2 (fun E hE => (k3 E hE).2.1) fun E w'' hE hI hd =>
     ⟨hI.1.put hd rfl (Nat.le_trans gw.1.size (k3 E hE).1) (fun e => by rw [e, hI.1.loop] at hd; cases hd) (fun E' hE' e => by
      have h6 := (hI.1.dfr E' hE').2.2.2.1
      have h7 := (k3 E hE).1
      omega), (CellsSame.put hd rfl).sim hI.2⟩
    obtain ⟨h4, h5⟩ := hI
    refine ⟨.tuple #[], by rw [results_eq, hres, Sem.run_bind]; simp [Sem.run_pure], ?_⟩
    refine ⟨_, _, run_endLoop h4.loop (by unfold recOf; simp only; split <;> simp), ?_⟩
    have h6 := h4.record { recOf fn a.tmps L.ps L.assign L.body D e2 with state := .exhausted }
    have sT : Sim G γ' (susp L.n L.t b') a.tmps (w''.putObj l (.loop { recOf fn a.tmps L.ps L.assign L.body D e2 with state := .exhausted })) :=
     h6.sim0.resume ht h6.grow h6.pin ((CellsSame.put h4.loop rfl).sim h5)
    have lift : ∀ e3 a3, a3.tmps = a.tmps → a3.defers = Ds.map markD ++ a.defers → Q e3 (susp L.n L.t b') → Lift G fx γ (susp L.n L.t bs) w Q e3 a3 (w''.putObj l (.loop { recOf fn a.tmps L.ps L.assign L.body D e2 with state := .exhausted })) := fun e3 a3 e1 e2 hq =>
     ⟨susp L.n L.t b', γ', by rw [e1]; exact sT, ⟨h6.grow, h6.pin⟩, ⟨Ds, fun h => by rw [hx.2.1] at h; simp at h, by rw [e2, hx.1], hnd, fun E hE => by
      obtain ⟨d1, d2, d3, _⟩ := h6.dfr E hE
      exact ⟨d3, d1, d2⟩⟩, hq⟩
    obtain ⟨q1, q2⟩ := hR e2 b' h3
    rcases q1 with rfl | rfl | ⟨id, rfl⟩
    ·exact lift .normal _ rfl rfl q2
    ·exact wpIn_ret (lift .ret _ rfl rfl q2)
    ·exact wpIn_exit (lift (.exit id) _ rfl rfl q2)
   rcases h1 with rfl | rfl
   ·exact fin
   ·exact fin
  ·refine gw.2.sim ⟨by show _ = max fi.ntmps (first.length + 1 + caps.length); simp; omega, fun i => ?_, hs.b, hs.u, hs.g, hs.o⟩
   have hvals : ∀ j x, (first ++ .yld l :: caps)[j]? = some x → ∃ y, (fs ++ Value.func (Fn.yield l) #[] #[] :: cv)[j]? = some y ∧ Rep γ w bs uTop x y := fun j x hx => by
    rcases Nat.lt_or_ge j first.length with hj | hj
    ·rw [List.getElem?_append_left hj] at hx
     have hj' : j < fs.length := by omega
     refine ⟨fs[j], by rw [List.getElem?_append_left hj']; exact List.getElem?_eq_getElem hj', p1 j x _ hx (List.getElem?_eq_getElem hj')⟩
    ·rw [List.getElem?_append_right hj] at hx
     rw [List.getElem?_append_right (by omega)]
     rw [l1]
     cases hk : j - first.length with
     | zero =>
      rw [hk] at hx
      simp only [List.getElem?_cons_zero, Option.some.injEq] at hx
      subst hx
      exact ⟨_, rfl, .data (.yld _)⟩
     | succ k =>
      rw [hk] at hx
      simp only [List.getElem?_cons_succ] at hx ⊢
      have hk2 := (List.getElem?_eq_some_iff.1 hx).1
      exact ⟨cv[k]'(by omega), List.getElem?_eq_getElem (by omega), p2 k x _ hx (List.getElem?_eq_getElem (by omega))⟩
   have e : ((fs.toArray ++ #[Value.func (Fn.yield l) #[] #[]] ++ cv.toArray) ++ Array.replicate (fi.ntmps - (fs.toArray ++ #[Value.func (Fn.yield l) #[] #[]] ++ cv.toArray).size) undef).getD i undef = ((fs ++ Value.func (Fn.yield l) #[] #[] :: cv) ++ List.replicate (fi.ntmps - (fs.length + 1 + cv.length)) undef).getD i undef := by
    rw [Array.getD_eq_getD_getElem?, List.getD_eq_getElem?_getD]
    congr 1
    rw [← Array.getElem?_toList]
    have hn : fi.ntmps - (fs.toArray ++ #[Value.func (Fn.yield l) #[] #[]] ++ cv.toArray).size = fi.ntmps - (fs.length + 1 + cv.length) := by
     simp only [Array.size_append, List.size_toArray, List.length_cons, List.length_nil]
    rw [hn]
    simp only [Array.toList_append, Array.toList_replicate, List.append_assoc, List.singleton_append]
   show Rep _ _ _ _ _ (Array.getD _ i undef)
   rw [e]
   show Rep _ _ _ _ ((first ++ .yld l :: caps).getD i .undef) _
   cases hx : (first ++ .yld l :: caps)[i]? with
   | none => rw [List.getD_eq_getElem?_getD, hx]; exact .undef _
   | some x =>
    obtain ⟨y, hy, hr⟩ := hvals i x hx
    have hi' := (List.getElem?_eq_some_iff.1 hy).1
    rw [List.getD_eq_getElem?_getD, List.getD_eq_getElem?_getD, hx, List.getElem?_append_left hi', hy]
    exact hr
theorem YTops.yieldG {L : YL} {l : Nat} {s : YS} {Q : Exit → YS → Prop} {ops : Array Oper} {i : Nat} {is : List Nat} {o : Oper} {x : Operand} {xs : Array Operand} {ts : Array TypeId} {cs : List V} {R : Exit → (Nat → Option Blk) → Prop} (hi : ops[i]? = some o) (hgd : guardV ops s.st o = some true)
  (ho : o.op = .call { callee := .value x, args := xs, argTypes := ts }) (hx : s.st.ev G x = some (.yld l)) (hcs : evs (s.st.ev G) xs.toList = some cs) (hdst : dstOk s.st.n o.dst = true)
  (hsu : s.st.u = uTop) (hsx : s.x = .normal) (hti : ∀ i, okV uPin (s.st.t i) = true) (ht : ∀ i, okV uPin (L.t i) = true) (hpn : ∀ p, p ∈ L.ps.toList → p < L.n) (hps : cs.length = L.ps.size) (hr : RoundT P G L.n L.t L.ps.toList L.assign L.body s.st.b cs R)
  (hR : ∀ e b', R e b' → e = .normal ∨ e = .ret ∨ ∃ id, e = .exit id)
  (hn : ∀ e b', R e b' → YTops P G L l ops is ⟨e, (susp s.st.n s.st.t b').put o.dst (.bool (jumpOf e).isNone)⟩ Q) : YTops P G L l ops (i :: is) s Q := fun fn γ0 w0 b0 D Ds sz te γ a w he hs hd => by
 obtain ⟨sx, ⟨ni, ti, b, u⟩⟩ := s
 simp only at hsu hsx
 subst hsu; subst hsx
 simp only [wpOpsIn, hi]
 have hw : Region.wanted o (yielded ops a.tmps) = true := guardV_spec hs hgd
 rw [if_pos hw]
 have pu : ∀ (e : Exit) (b' : Nat → Option Blk), ((susp ni ti b').put o.dst (.bool (jumpOf e).isNone)).b = b' ∧ ((susp ni ti b').put o.dst (.bool (jumpOf e).isNone)).u = uTop := fun e b' => by
  cases o.dst <;> exact ⟨rfl, rfl⟩
 exact yield_op ho hx hcs hs hti ht hpn he hps hr hR hd fun e b' γ' w' h1 h2 h3 h4 => hn e b' h1 fn γ0 w0 b0 D Ds sz te γ' _ w' (by rw [(pu e b').1, (pu e b').2]; exact h2) (h3.put hdst (.data (.bool _))) (by rw [put_defers]; exact h4)
end
theorem TV.rangeF {P : Program} {G : Nat → Option (List V)} {g : Operand} {ps : Array Tmp} {assign body : Code} {st : St} {f : FuncId} {fi : Func} {c : Code} {first caps : List V} {R : Exit → (Nat → Option Blk) → Prop} {Q : Exit → St → Prop}
  (hg : st.shift.ev G g = some (.fn f first caps)) (hf : P.funcs[f]? = some fi) (hb : fi.body = some c) (hname : (fi.name == "runtime.NumGoroutine") = false) (hres : fi.results = #[]) (hu : ∀ b k, st.b b = some k → st.u b = true) (hpn : ∀ i, okV uPin (renV sh (st.t i)) = true)
  (hi : IterT P G c (max fi.ntmps (first.length + 1 + caps.length)) (fun l => first ++ .yld l :: caps) (shB st.b) ⟨st.n, fun i => renV sh (st.t i), ps, assign, body⟩ R)
  (hR : ∀ e b', R e b' → (e = .normal ∨ e = .ret ∨ ∃ id, e = .exit id) ∧ ∃ b0, b' = shB b0 ∧ (⟨st.n, st.t, b0, st.u⟩ : St).known ∧ Q e ⟨st.n, st.t, b0, st.u⟩) : TV P G (.rangeFunc g ps assign body) st Q := fun fx γ a w hs hx => by
 have hx' : FxOk fx γ.shift a.defers w := ⟨hx.1, hx.2.1, fun l hl => ⟨(hx.2.2 l hl).1, by simp only [Gh.shift, (hx.2.2 l hl).2]; rfl⟩⟩
 have key : CW fx.ro P (.rangeFunc g ps assign body) (Lift G fx γ.shift st.shift w (fun e s => ∃ s' : St, s = s'.shift ∧ s'.u = st.u ∧ s'.known ∧ Q e s')) a w   := range_lawF (first := first) (L := ⟨st.n, fun i => renV sh (st.t i), ps, assign, body⟩) (bs := shB st.b) (Q := fun e s => ∃ s' : St, s = s'.shift ∧ s'.u = st.u ∧ s'.known ∧ Q e s') hg hpn hf hb hname hres hi (fun e b' h => by
   obtain ⟨h1, b0, rfl, h2, h3⟩ := hR e b' h
   exact ⟨h1, ⟨st.n, st.t, b0, st.u⟩, rfl, rfl, h2, h3⟩) fx γ.shift a w hs.shift hx'
 exact wpIn_mono key fun e a' w' hl => Lift.unshift hl hu
theorem Gst.snapT {G : Nat → Option (List V)} {st : St} {t b : Nat} {k : Blk} {row : List V} (ht : st.t t = .ptr b 0 0) (hb : st.b b = some k) (hr : k.rows = [row]) (hM : k.size < MAPS) (hd : ∀ c, c ∈ row → dcell c = true) : Gst G st ((st.delB b).setT t (.snap row)) := fun γ tmps w hs => by
 obtain ⟨γ', h1, h2, h3, _, h4⟩ := hs.shareL hb (fun r hr' c hc => by rw [hr] at hr'; simp only [List.mem_singleton] at hr'; subst hr'; exact hd c hc)
 refine ⟨γ', ?_, h2, h3⟩
 have hp := hs.t t
 rw [ht] at hp
 obtain ⟨B, o, hv, hl⟩ := hp.ptr_inv hb
 have hat : BlkAt γ w st.b st.u b k := by
  rcases hs.b b k hb with ⟨h0, _⟩ | hm | ha
  ·rw [hl] at h0; simp at h0
  ·exact (hm.small hM).elim
  ·exact ha
 obtain ⟨_, B', o', cs, e, g1, g2, g3, g4, g5, g6, _, _⟩ := hat
 rw [hl] at g1; simp only [Option.some.injEq, Prod.mk.injEq] at g1
 obtain ⟨rfl, rfl⟩ := g1
 rw [hr] at g5
 simp only [List.length_singleton, Nat.one_mul] at g5
 have hsl := h4 (.ref b 0 1) (.slice (some ⟨B, o, none⟩) 1 1) (by
  have := Rep.ref (γ := γ) (w := w) (bs := st.b) (u := st.u) b 0 1 B o 1 k hb hl (by rw [hr]; simp) (Nat.le_refl _) ⟨cs, e, (0, 0), g3, by omega⟩ hM (by rw [hr]; simp)
  simpa using this)
 simp only [shV, if_true, hr, List.drop_zero, List.take_succ_cons, List.take_zero] at hsl
 have hsn : Rep γ' w (st.delB b).b (st.delB b).u (.snap row) (tmps.getD t undef) := by
  rcases hsl.sl_inv with ⟨a, _, h0⟩ | ⟨B2, o2, cap, vs, e2, _, _, k3, k4⟩
  ·simp at h0
  ·simp only [Value.slice.injEq, Option.some.injEq, Addr.mk.injEq, and_true] at e2
   obtain ⟨⟨rfl, rfl⟩, _⟩ := e2
   rw [hv]
   have : ([row].flatten) = row := by simp
   rw [this] at k3 k4
   have := RepD.snap (lim := γ'.lim) (w := w) row B o vs k3 k4
   exact .data (by simpa using this)
 exact ⟨h1.n, fun i => by
  simp only [St.setT]
  by_cases hi : i = t
  ·subst hi; rw [if_pos rfl]; exact hsn
  ·rw [if_neg hi]; exact h1.t i, h1.b, h1.u, h1.g, h1.o⟩
theorem ofL_mem {l : List (Nat × Blk)} (h : (l.map (·.1)).Nodup) {p : Nat × Blk} (hp : p ∈ l) : ofL l p.1 = some p.2 := by
 induction l with
 | nil => simp at hp
 | cons q l ih =>
  rw [ofL_cons]
  simp only [List.map_cons, List.nodup_cons] at h
  rcases List.mem_cons.1 hp with rfl | hp
  ·rw [if_pos rfl]
  ·have : q.1 ≠ p.1 := fun e => h.1 (by rw [e]; exact List.mem_map.2 ⟨p, hp, rfl⟩)
   rw [if_neg this]; exact ih h.2 hp
theorem Gst.mob {G : Nat → Option (List V)} {lits rest : List (Nat × Blk)} {kd : Blk} {d m n : Nat} (hdm : d ≠ m) (hpm : uPin m = false) (hm : uTop m = true) (hnd : ((lits ++ (d, kd) :: rest).map (·.1)).Nodup) (hkd : DataRows kd.rows) (hrd : ∀ p, p ∈ rest → DataRows p.2.rows)
  (hl : (lits.all fun p => p.1 != m && uTop p.1 && (p.2.rows.all fun r => r.all (okV fun i => (((lits ++ (d, kd) :: rest).map (·.1)).contains i || uTop i) && i != m)) && ((p.2.ren (renF d m)).rows.all fun r => r.all (okV uTop))) = true)
  (hr : (rest.all fun p => p.1 != m && uTop p.1) = true) :
  Gst G (stOf n [] (lits ++ (d, kd) :: rest) ((lits ++ (d, kd) :: rest).map (·.1))) (susp n (fun _ => .undef) (ofL ((lits.map fun p => (p.1, p.2.ren (renF d m))) ++ (m, kd) :: rest))) := by
 let bs := lits ++ (d, kd) :: rest
 let u1 : Nat → Bool := fun i => (((lits ++ (d, kd) :: rest).map (·.1)).contains i || uTop i) && i != m
 let st1 : St := ⟨n, fun _ => .undef, ofL bs, u1⟩
 have hbo : ∀ b k, st1.b b = some k → (b, k) ∈ bs := fun b k h => ofL_some (show ofL bs b = some k from h)
 have hne : ∀ p, p ∈ bs → p.1 ≠ m := fun p hp => by
  rcases List.mem_append.1 hp with h | h
  ·have := List.all_eq_true.1 hl p h
   simp only [Bool.and_eq_true, bne_iff_ne] at this; exact this.1.1.1
  ·rcases List.mem_cons.1 h with rfl | h
   ·exact hdm
   ·have := List.all_eq_true.1 hr p h
    simp only [Bool.and_eq_true, bne_iff_ne] at this; exact this.1
 have f1 : Forget (stOf n [] bs (bs.map (·.1))) st1 := ⟨rfl, fun i => .inl rfl, fun b => .inr ⟨rfl, fun k hk => by
  have hmem := hbo b k hk
  refine ⟨?_, fun r hr' c hc => ?_⟩
  ·show (((bs.map (·.1)).contains b || uTop b) && b != m) = true
   simp only [Bool.and_eq_true, Bool.or_eq_true, List.contains_eq_mem, decide_eq_true_eq, bne_iff_ne]
   exact ⟨.inl (List.mem_map.2 ⟨_, hmem, rfl⟩), hne _ hmem⟩
  ·rcases List.mem_append.1 hmem with h | h
   ·have := List.all_eq_true.1 hl _ h
    simp only [Bool.and_eq_true] at this
    exact List.all_eq_true.1 (List.all_eq_true.1 this.1.2 r hr') c hc
   ·rcases List.mem_cons.1 h with h | h
    ·cases h; exact dcell_okV (hkd r hr' c hc) _
    ·exact dcell_okV (hrd _ h r hr' c hc) _⟩, fun b hb => by
  show (((bs.map (·.1)).contains b || uTop b) && b != m) = true
  have hbm : b ≠ m := fun e => by rw [e, hpm] at hb; simp at hb
  simp [uPin_top hb, hbm]⟩
 have hu1 : st1.u m = false := by show (_ && m != m) = false; simp
 refine Gst.trans (Gst.forget f1) (Gst.trans (Gst.renm hdm hu1) (Gst.forget ⟨rfl, fun i => .inl rfl, fun b => ?_, fun b hb => uPin_top hb⟩))
 show ofL _ b = none ∨ _
 cases hf : ofL ((lits.map fun p => (p.1, p.2.ren (renF d m))) ++ (m, kd) :: rest) b with
 | none => exact .inl rfl
 | some k =>
  have hmem := ofL_some hf
  have look : ∀ p, p ∈ bs → st1.b p.1 = some p.2 := fun p hp => ofL_mem hnd hp
  rcases List.mem_append.1 hmem with h | h
  ·obtain ⟨p, hp, e⟩ := List.mem_map.1 h
   simp only [Prod.mk.injEq] at e
   obtain ⟨rfl, rfl⟩ := e
   have hpm' := hne p (List.mem_append_left _ hp)
   have hpd : p.1 ≠ d := fun e => by
    have := hnd
    simp only [List.map_append, List.map_cons] at this
    exact (List.nodup_append.1 this).2.2 p.1 (List.mem_map.2 ⟨p, hp, rfl⟩) d (by simp) e
   have hall := List.all_eq_true.1 hl p hp
   simp only [Bool.and_eq_true] at hall
   refine .inr ⟨?_, fun k hk => ?_⟩
   ·show ofL _ p.1 = (if p.1 = m then (st1.b d).map (Blk.ren (renF d m)) else if p.1 = d then none else (st1.b p.1).map (Blk.ren (renF d m)))
    rw [hf, if_neg hpm', if_neg hpd, look p (List.mem_append_left _ hp)]; rfl
   ·have hk' : (if p.1 = m then (st1.b d).map (Blk.ren (renF d m)) else if p.1 = d then none else (st1.b p.1).map (Blk.ren (renF d m))) = some k := hk
    rw [if_neg hpm', if_neg hpd, look p (List.mem_append_left _ hp)] at hk'
    simp only [Option.map_some, Option.some.injEq] at hk'
    subst hk'
    exact ⟨hall.1.1.2, fun r hr' c hc => List.all_eq_true.1 (List.all_eq_true.1 hall.2 r hr') c hc⟩
  ·rcases List.mem_cons.1 h with h | h
   ·cases h
    refine .inr ⟨?_, fun k' hk => ?_⟩
    ·show ofL _ m = (if m = m then (st1.b d).map (Blk.ren (renF d m)) else if m = d then none else (st1.b m).map (Blk.ren (renF d m)))
     rw [hf, if_pos rfl, look (d, kd) (by simp [bs])]
     simp only [Option.map_some, hkd.ren]
    ·have hk' : (if m = m then (st1.b d).map (Blk.ren (renF d m)) else if m = d then none else (st1.b m).map (Blk.ren (renF d m))) = some k' := hk
     rw [if_pos rfl, look (d, kd) (by simp [bs])] at hk'
     simp only [Option.map_some, hkd.ren, Option.some.injEq] at hk'
     subst hk'
     exact ⟨hm, fun r hr' c hc => dcell_okV (hkd r hr' c hc) _⟩
   ·have hin : (b, k) ∈ bs := List.mem_append_right _ (List.mem_cons_of_mem _ h)
    have hpm' : b ≠ m := hne _ hin
    have hpd : b ≠ d := fun e => by
     have := hnd
     simp only [List.map_append, List.map_cons] at this
     have h2 := (List.nodup_cons.1 (List.nodup_append.1 this).2.1).1
     exact h2 (List.mem_map.2 ⟨(b, k), h, e⟩)
    have hall := List.all_eq_true.1 hr _ h
    simp only [Bool.and_eq_true] at hall
    have hk3 : (k : Blk).ren (renF d m) = k := (hrd _ h).ren _
    refine .inr ⟨?_, fun k' hk => ?_⟩
    ·show ofL _ b = (if b = m then (st1.b d).map (Blk.ren (renF d m)) else if b = d then none else (st1.b b).map (Blk.ren (renF d m)))
     rw [hf, if_neg hpm', if_neg hpd, look (b, k) hin]
     simp only [Option.map_some, hk3]
    ·have hk' : (if b = m then (st1.b d).map (Blk.ren (renF d m)) else if b = d then none else (st1.b b).map (Blk.ren (renF d m))) = some k' := hk
     rw [if_neg hpm', if_neg hpd, look (b, k) hin] at hk'
     simp only [Option.map_some, hk3, Option.some.injEq] at hk'
     subst hk'
     exact ⟨hall.2, fun r hr' c hc => dcell_okV (hrd _ h r hr' c hc) _⟩
def cL : Code → Code
 | .seq x _ => x
 | _ => .skip
def cR : Code → Code
 | .seq _ y => y
 | _ => .skip
def cB : Code → Code
 | .block _ y => y
 | .loop y => y
 | .scope y => y
 | _ => .skip
def rAssign : Code → Code
 | .rangeFunc _ _ a _ => a
 | _ => .skip
def rBody : Code → Code
 | .rangeFunc _ _ _ b => b
 | _ => .skip
def rOps : Code → Array Oper
 | .region _ o _ => o
 | _ => #[]
theorem iter_succ {σ ε : Type} (f : σ → Option (σ ⊕ ε)) (m : Nat) (x : σ) : iter f (m + 1) x = (match f x with | none => none | some (.inl z) => iter f m z | some (.inr e) => some e) := by
 cases h : f x with
 | none => simp only [iter, h]
 | some y => cases y <;> simp only [iter, h]
theorem Gst.same {G : Nat → Option (List V)} (st : St) : Gst G st st := fun γ _ w hs => ⟨γ, hs, .refl γ w, .refl hs.u⟩
theorem find_b {l : List (Nat × Blk)} {b : Nat} {k : Blk} (h : ofL l b = some k) : ∃ q, q ∈ l ∧ q.1 = b ∧ q.2 = k := by
 unfold ofL at h
 split at h
 ·rename_i q hq
  exact ⟨q, List.mem_of_find?_eq_some hq, by simpa using List.find?_some hq, Option.some.inj h⟩
 ·simp at h
end Go.EV
namespace Go.EV
open Go
theorem put_other {a : Act} {dst : Option Nat} {v : Value} {t : Nat} (h : dst ≠ some t) : (a.put dst v).tmps.getD t undef = a.tmps.getD t undef := by
 cases dst with
 | none => rfl
 | some d =>
  have hd : d ≠ t := fun e => h (by rw [e])
  show (a.tmps.setIfInBounds d v).getD t undef = _
  rw [Array.getD_eq_getD_getElem?, Array.getD_eq_getD_getElem?, Array.getElem?_setIfInBounds_ne hd]
theorem wpIn_frame {F : Fence} {n : Nat} {P : Program} {o : Oper} {a : Act} {w : World} {t : Nat} (hd : o.dst ≠ some t) {K K' : Act → World → Prop} {Q Q' : Exit → Act → World → Prop} (h : o.wpIn F n P a w K Q)
  (hK : ∀ a' w', K a' w' → a'.tmps.getD t undef = a.tmps.getD t undef → K' a' w') (hQ : ∀ e a' w', e ≠ .normal → Q e a' w' → Q' e a' w') : o.wpIn F n P a w K' Q' := by
 unfold Oper.wpIn at *
 refine ⟨h.1, ?_⟩
 have hh := h.2
 have lets : LetsOut Q → LetsOut Q' := fun ⟨x, y, z⟩ => ⟨x, y, hQ _ _ _ (by simp) z⟩
 generalize (o.semAt F.round a.eval).run P w = r at *
 cases r with
 | ok x w' =>
  cases x <;> simp only [Oper.uponIn] at hh ⊢ <;>
   first
    | exact hK _ _ hh (put_other hd)
    | exact ⟨hh.1, CallsIn.mono hh.2 (fun e w'' he => by cases e <;> first | exact hK _ _ he (put_other hd) | exact hQ _ _ _ (by simp) he | exact lets he)⟩
    | exact ⟨hh.1, RowsIn.mono hh.2 (fun _ _ he => hK _ _ he (put_other hd))⟩
    | exact ⟨hh.1, RoundIn.mono hh.2 (fun e w'' he => by cases e <;> first | exact hK _ _ he (put_other hd) | exact hQ _ _ _ (by simp) he | exact lets he)⟩
 | halt x w' => cases x <;> simp only [Oper.uponIn] at hh ⊢ <;> exact hQ _ _ _ (by simp) hh
theorem wpOpsIn_frame {F : Fence} {n : Nat} {P : Program} {ops : Array Oper} {t : Nat} {Q : Exit → Act → World → Prop} (ho : ∀ (i : Nat) (o : Oper), ops[i]? = some o → o.dst ≠ some t) : ∀ (l : List Nat) (a : Act) (w : World), wpOpsIn F n P ops Q l a w →
  wpOpsIn F n P ops (fun e a' w' => Q e a' w' ∧ (e = .normal → a'.tmps.getD t undef = a.tmps.getD t undef)) l a w
 | [], _, _, h => ⟨h, fun _ => rfl⟩
 | i :: rest, a, w, h => by
  simp only [wpOpsIn] at h ⊢
  cases hi : ops[i]? with
  | none => rw [hi] at h; simp only at h ⊢; exact wpOpsIn_frame ho rest a w h
  | some o =>
   rw [hi] at h
   simp only at h ⊢
   split
   ·rename_i hw
    rw [if_pos hw] at h
    refine wpIn_frame (ho i o hi) h (fun a' w' hk he => ?_) (fun e a' w' hne hq => ⟨hq, fun e' => absurd e' hne⟩)
    exact wpOpsIn_mono (fun e a2 w2 hl => ⟨hl.1, fun e' => (hl.2 e').trans he⟩) rest a' w' (wpOpsIn_frame ho rest a' w' hk)
   ·rename_i hw
    rw [if_neg hw] at h
    exact ⟨h.1, wpOpsIn_mono (fun e a2 w2 hl => ⟨hl.1, fun e' => (hl.2 e').trans (put_other (ho i o hi))⟩) rest _ w (wpOpsIn_frame ho rest _ w h.2)⟩
theorem wpIn_value {ro : Option Nat} {P : Program} {o : Oper} {a : Act} {w w' : World} {v : Value} {next : Act → World → Prop} {Q : Exit → Act → World → Prop} (hr : (execOp a.eval o).run P w = .ok (.value v) w') (hn : next (a.put o.dst v) w') : o.wpIn (RF ro) 0 P a w next Q := by
 refine op_in ?_ ?_
 ·show o.upon P a _ _ _
  rw [hr, Oper.upon_value, put_defers]
 ·show o.upon P a _ _ _
  rw [hr, Oper.upon_value]
  exact hn
theorem Sim.putU {G : Nat → Option (List V)} {γ : Gh} {st : St} {a : Act} {w : World} (h : Sim G γ st a.tmps w) {d : Nat} {v : Value} (hd : st.t d = .undef) : Sim G γ st (a.put (some d) v).tmps w :=
 ⟨by show (a.tmps.setIfInBounds d v).size = _; rw [Array.size_setIfInBounds]; exact h.n, fun i => by
  by_cases hi : d = i
  ·subst hi; rw [hd]; exact .undef _
  ·rw [put_other (fun e => hi (by simpa using e))]; exact h.t i, h.b, h.u, h.g, h.o⟩
theorem put_same {a : Act} {d : Nat} {v : Value} (h : d < a.tmps.size) : (a.put (some d) v).tmps.getD d undef = v := by
 show (a.tmps.setIfInBounds d v).getD d undef = v
 rw [Array.getD_eq_getD_getElem?, Array.getElem?_setIfInBounds_self_of_lt h]; rfl
theorem putN {a : Act} {dst : Option Nat} {v : Value} : (a.put dst v).tmps.size = a.tmps.size := by
 cases dst with
 | none => rfl
 | some d => exact Array.size_setIfInBounds
def foldB {α σ : Type} (f : α → σ → Option σ) : List α → σ → Option σ
 | [], s => some s
 | x :: l, s => (f x s).bind (foldB f l)
theorem foldB_perm {α σ : Type} {f : α → σ → Option σ} (hc : ∀ x y s, (f x s).bind (f y) = (f y s).bind (f x)) {l l' : List α} (h : l.Perm l') : ∀ s, foldB f l s = foldB f l' s := by
 induction h with
 | nil => intro s; rfl
 | cons x _ ih => intro s; simp only [foldB]; congr 1; funext s'; exact ih s'
 | swap x y l =>
  intro s
  simp only [foldB]
  have e : ∀ (p q : α), ((f p s).bind fun s' => (f q s').bind (foldB f l)) = ((f p s).bind (f q)).bind (foldB f l) := fun p q => by cases f p s <;> rfl
  show ((f y s).bind fun s' => (f x s').bind (foldB f l)) = ((f x s).bind fun s' => (f y s').bind (foldB f l))
  rw [e, e, hc]
 | trans _ _ ih1 ih2 => intro s; rw [ih1, ih2]
theorem left_perm {α : Type} (seen : Array Nat) : ∀ (L : List (MapEntry × α)) (p : MapEntry × α), (L.map (·.1.born)).Nodup → p ∈ L → seen.contains p.1.born = false →
  ((L.filter fun q => !seen.contains q.1.born).map (·.2)).Perm (p.2 :: ((L.filter fun q => !(seen.push p.1.born).contains q.1.born).map (·.2)))
 | [], _, _, hp, _ => by simp at hp
 | q :: L, p, hn, hp, hs => by
  simp only [List.map_cons, List.nodup_cons] at hn
  have hc : ∀ (x : Nat), (seen.push p.1.born).contains x = (seen.contains x || x == p.1.born) := fun x => by
   rw [Bool.eq_iff_iff]
   simp only [Array.contains_iff_mem, Array.mem_push, Bool.or_eq_true, beq_iff_eq]
  rcases List.mem_cons.1 hp with rfl | hp
  ·have e : (L.filter fun q => !(seen.push p.1.born).contains q.1.born) = L.filter fun q => !seen.contains q.1.born := by
    refine List.filter_congr fun q hq => ?_
    rw [hc]
    have : (q.1.born == p.1.born) = false := by
     rw [beq_eq_false_iff_ne]
     exact fun e => hn.1 (List.mem_map.2 ⟨q, hq, e⟩)
    rw [this, Bool.or_false]
   rw [List.filter_cons, if_pos (by rw [hs]; rfl), List.filter_cons, if_neg (by rw [hc]; simp), e]
   exact List.Perm.refl _
  ·have ih := left_perm seen L p hn.2 hp hs
   have hne : (q.1.born == p.1.born) = false := by
    rw [beq_eq_false_iff_ne]
    exact fun e => hn.1 (List.mem_map.2 ⟨p, hp, e.symm⟩)
   have e2 : (!(seen.push p.1.born).contains q.1.born) = (!seen.contains q.1.born) := by rw [hc, hne, Bool.or_false]
   rw [List.filter_cons, List.filter_cons, e2]
   split
   ·simp only [List.map_cons]
    exact (ih.cons _).trans (List.Perm.swap _ _ _)
   ·exact ih
abbrev opsOf (ops : Array Oper) : List (Op × Option Nat × Option (Nat × Bool)) := ops.toList.map fun o => (o.op, o.dst, o.guard)
theorem opsOf_get {ops : Array Oper} {l : List (Op × Option Nat × Option (Nat × Bool))} (h : opsOf ops = l) {j : Nat} {p : Op × Option Nat × Option (Nat × Bool)} (hp : l[j]? = some p) : ∃ o, ops[j]? = some o ∧ o.op = p.1 ∧ o.dst = p.2.1 ∧ o.guard = p.2.2 := by
 subst h
 rw [List.getElem?_map, Option.map_eq_some_iff] at hp
 obtain ⟨o, ho, rfl⟩ := hp
 exact ⟨o, by rw [← Array.getElem?_toList]; exact ho, rfl, rfl, rfl⟩
section
variable {P : Program} {G : Nat → Option (List V)}
theorem region2 {ro : Option Nat} {id : Nat} {ops : Array Oper} {o0 o1 : Oper} {Q : Exit → Act → World → Prop} {a : Act} {w : World} (hn : ops.size = 2) (h0 : ops[0]? = some o0) (h1 : ops[1]? = some o1) (g0 : o0.guard = none) (g1 : o1.guard = none)
  (h : o0.wpIn (RF ro) 0 P a w (fun a' w' => o1.wpIn (RF ro) 0 P a' w' (fun a2 w2 => Q .normal a2 w2) Q) Q) : CW ro P (.region id ops false) Q a w := by
 refine wpIn_region ?_
 rw [hn]
 show wpOpsIn (RF ro) 0 P ops Q [0, 1] a w
 have w0 : ∀ a : Act, Region.wanted o0 (yielded ops a.tmps) = true := fun a => by unfold Region.wanted; rw [g0]
 have w1 : ∀ a : Act, Region.wanted o1 (yielded ops a.tmps) = true := fun a => by unfold Region.wanted; rw [g1]
 simp only [wpOpsIn, h0, h1, w0, w1, if_true]
 exact h
theorem TV.rangeMap {σ α : Type} {ty : Ty α} {z b mt kt et n : Nat} {ex : Bool} {l : List α} {kd : IntKind} {fv : α → Int} {i29 i30 i31 i32 B B2 : Nat} {ops29 ops30 ops31 ops32 : Array Oper} {tm t0 it tn tb te tw tv : Nat} {st : St} {S : σ → St} {body : α → σ → Option σ} {s0 r : σ}
  (h29 : opsOf ops29 = [(.move (.tmp tm), some t0, none), (.range mt (.tmp t0), some it, none)]) (h30 : opsOf ops30 = [(.next (.tmp it) false, some tn, none), (.extract (.tmp tn) 0, some tb, none)])
  (h31 : opsOf ops31 = [(.entry (.tmp it), some te, none), (.extract (.tmp te) 1, some tw, none), (.assign (.tmp tw), some tv, none)]) (h32 : (opsOf ops32).all (fun p => p.2.1 != some it) = true)
  (hne : it ≠ tn ∧ it ≠ tb ∧ it ≠ te ∧ it ≠ tw ∧ it ≠ tv ∧ it ≠ t0) (hlt : t0 < n ∧ it < n ∧ tn < n ∧ tb < n ∧ te < n ∧ tw < n ∧ tv < n)
  (hmt : P.underlying mt = some (.map kt et)) (hmz : mva z = false ∧ mvn z = 1) (hM : MAPS ≤ z) (htm : st.t tm = .mp b) (hb : st.b b = some ⟨z, ex, l.map ty.c⟩) (hn : st.n = n) (hty : ∀ x, (ty.c x).drop (mkn z) = [.int kd (fv x)])
  (hS : ∀ s, (S s).n = n ∧ (S s).t it = .undef ∧ (S s).t tn = .undef ∧ (S s).t tb = .undef ∧ (S s).t te = .undef ∧ (S s).t tw = .undef ∧ (S s).t tv = .undef)
  (h0 : Gst G (((st.setT t0 .undef).setT it .undef).delB b) (S s0))
  (hbody : ∀ x s s', body x s = some s' → TVops P G ops32 (List.range ops32.size) ((S s).setT tv (.int kd (fv x))) (fun e st' => e = .normal ∧ Gst G st' (S s')))
  (hcomm : ∀ x y s, (body x s).bind (body y) = (body y s).bind (body x)) (hr : foldB body l s0 = some r) :
  TV P G (.seq (.region i29 ops29 false) (.block B (.loop (.seq (.region i30 ops30 false) (.seq (.cond (.tmp tb) .skip (.exit B)) (.block B2 (.seq (.region i31 ops31 false) (.region i32 ops32 false)))))))) st (fun e st' => e = .normal ∧ st' = S r) := fun fx γ a w hs hx => by
 obtain ⟨n1, n2, n3, n4, n5, n6⟩ := hne
 obtain ⟨l0, l1, l2, l3, l4, l5, l6⟩ := hlt
 obtain ⟨o0, a0, b0, c0, d0⟩ := opsOf_get h29 (j := 0) rfl
 obtain ⟨o1, a1, b1, c1, d1⟩ := opsOf_get h29 (j := 1) rfl
 obtain ⟨p0, e0, f0, g0, k0⟩ := opsOf_get h30 (j := 0) rfl
 obtain ⟨p1, e1, f1, g1, k1⟩ := opsOf_get h30 (j := 1) rfl
 obtain ⟨q0, q0a, q0b, q0c, q0d⟩ := opsOf_get h31 (j := 0) rfl
 obtain ⟨q1, q1a, q1b, q1c, q1d⟩ := opsOf_get h31 (j := 1) rfl
 obtain ⟨q2, q2a, q2b, q2c, q2d⟩ := opsOf_get h31 (j := 2) rfl
 have z29 : ops29.size = 2 := by have := congrArg List.length h29; simpa using this
 have z30 : ops30.size = 2 := by have := congrArg List.length h30; simpa using this
 have z31 : ops31.size = 3 := by have := congrArg List.length h31; simpa using this
 have f32 : ∀ (i : Nat) (o : Oper), ops32[i]? = some o → o.dst ≠ some it := fun i o ho => by
  have hm : (o.op, o.dst, o.guard) ∈ opsOf ops32 := List.mem_map.2 ⟨o, Array.mem_toList_iff.2 (Array.mem_of_getElem? ho), rfl⟩
  have := List.all_eq_true.1 h32 _ hm
  simpa using this

 have hmp := hs.t tm
 rw [htm] at hmp
 obtain ⟨bm, hmv, hloc⟩ : ∃ bm, a.tmps.getD tm undef = .map (some bm) ∧ γ.loc b = some (bm, 0) := by
  generalize a.tmps.getD tm undef = v at hmp
  cases hmp with
  | data h => cases h
  | mp _ B k q1 q2 q3 => exact ⟨B, rfl, q2⟩
  | deadMp _ _ q1 => rw [hb] at q1; simp at q1
 obtain ⟨es, clock, hheap, hown, hes, hborn, hsz, hval⟩ : ∃ es clock, w.heap[bm]? = some (.map es clock) ∧ γ.own bm = some (.blk b) ∧ EsOk z es ∧ Born es clock ∧ es.size = l.length ∧ ∀ (j : Nat) (x : α), l[j]? = some x → ∃ e, es[j]? = some e ∧ e.val = .int kd (fv x) := by
  rcases hs.b b _ hb with ⟨h0, _⟩ | ⟨_, B', es, clock, q1, q2, q3, q4, q5, q6, q7⟩ | hk
  ·rw [hloc] at h0; simp at h0
  ·rw [hloc] at q1; simp only [Option.some.injEq, Prod.mk.injEq, and_true] at q1
   subst q1
   refine ⟨es, clock, q3, q2, q6.1, q6.2, by simpa using q4, fun j x hx => ?_⟩
   obtain ⟨e, r1, _, r3⟩ := MapAt.row q4 q5 q6.1 q7 (i := j) (r := ty.c x) (by rw [List.getElem?_map, hx]; rfl)
   refine ⟨e, r1, ?_⟩
   rw [hty x, hmz.1] at r3
   exact r3.int_inv
  ·exact absurd hk.1 (Nat.not_lt_of_le hM)

 have hlen : es.toList.length = l.length := by simpa using hsz
 let Z : List (MapEntry × α) := es.toList.zip l
 have hZn : (Z.map (·.1.born)).Nodup := by
  have : Z.map (·.1.born) = (es.toList.map (·.born)) := by
   show (es.toList.zip l).map (fun q => q.1.born) = _
   rw [show (fun q : MapEntry × α => q.1.born) = (fun e : MapEntry => e.born) ∘ Prod.fst from rfl, ← List.map_map, List.map_fst_zip (by omega)]
  rw [this]; exact hborn.1
 have hZv : ∀ p, p ∈ Z → p.1.val = .int kd (fv p.2) := fun p hp => by
  obtain ⟨j, hj⟩ := List.mem_iff_getElem?.1 hp
  have hj' : (es.toList.zip l)[j]? = some p := hj
  rw [List.getElem?_zip_eq_some] at hj'
  obtain ⟨e, r1, r2⟩ := hval j p.2 hj'.2
  rw [Array.getElem?_toList, r1] at hj'
  have := Option.some.inj hj'.1
  rw [← this]; exact r2
 have hZl : Z.map (·.2) = l := List.map_snd_zip (by omega)
 have hZe : ∀ e, e ∈ es.toList → ∃ x, (e, x) ∈ Z := fun e he => by
  obtain ⟨j, hj⟩ := List.mem_iff_getElem?.1 he
  have hjl : j < l.length := by rw [← hlen]; exact (List.getElem?_eq_some_iff.1 hj).1
  exact ⟨l[j], List.mem_of_getElem? (i := j) (by rw [List.getElem?_zip_eq_some]; exact ⟨hj, List.getElem?_eq_getElem hjl⟩)⟩

 let γ0 : Gh := { loc := γ.loc, own := fun B => if B = bm then none else γ.own B, lim := γ.lim }
 have hrelG : ∀ w', Grow γ w' γ0 w' := fun w' => ⟨rfl, rfl, rfl, Nat.le_refl _, fun _ _ _ _ h => h, fun _ _ => Nat.le_refl _, fun B _ ho => ⟨rfl, by show (if B = bm then none else γ.own B) = none; split; rfl; exact ho, rfl⟩, fun _ cs _ _ h => ⟨cs, h, rfl⟩⟩
 have hbl : ∀ (t : Nat → V) (m : Nat), BsLe γ (⟨m, t, st.b, st.u⟩ : St).b st.u γ0 ((⟨m, t, st.b, st.u⟩ : St).delB b).b ((⟨m, t, st.b, st.u⟩ : St).delB b).u := fun t m =>
  ⟨fun x hx' => by simp only [St.delB]; split <;> simp_all, fun x _ hn' => by simp only [St.delB]; split <;> simp_all, fun x q hq => ⟨by simp only [St.delB]; split; rfl; exact hs.u x q hq, by
   by_cases hx' : x = b
   ·exact .inl (by simp [St.delB, hx'])
   ·exact .inr ⟨q, by simp only [St.delB]; rw [if_neg hx']; exact hq, rfl, fun _ => rfl, rfl⟩⟩⟩
 have hrel : ∀ (st1 : St) (tm1 : Array Value) (w1 : World), st1.b = st.b → st1.u = st.u → CellsSame w w1 → w1.os = w.os → Sim G γ st1 tm1 w1 → Sim G γ0 (st1.delB b) tm1 w1 := fun st1 tm1 w1 hbe hue hcs _ h => by
  have bl : BsLe γ st1.b st1.u γ0 (st1.delB b).b (st1.delB b).u := by
   have := hbl st1.t st1.n
   rw [← hbe, ← hue] at this
   exact this
  have g := hrelG w1
  refine ⟨h.n, fun i => (h.t i).mono g bl, fun x q hq => ?_, fun x q hq => ?_, h.g.grow g, fun B x hx' => ?_⟩
  ·have hxb : x ≠ b := fun e => by subst e; simp [St.delB] at hq
   have hq' : st1.b x = some q := by simpa [St.delB, hxb] using hq
   have hob : ∀ B, γ.own B = some (.blk x) → γ0.own B = some (.blk x) := fun B hB => by
    show (if B = bm then none else γ.own B) = _
    rw [if_neg (fun e => by rw [e, hown] at hB; simp at hB; exact hxb hB.symm)]; exact hB
   have hon : ∀ B i j, γ.own B = some (.nest x i j) → γ0.own B = some (.nest x i j) := fun B i j hB => by
    show (if B = bm then none else γ.own B) = _
    rw [if_neg (fun e => by rw [e, hown] at hB; simp at hB)]; exact hB
   rcases h.b x q hq' with v | hm | ⟨hM', B, o, cs, e, a1, a2, a3, a4, a5, a6, a7, a8⟩
   ·exact .inl v
   ·exact .inr (.inl (hm.same rfl (fun B _ hB => ⟨hob B hB, rfl⟩) fun c v hr => hr.mono g bl))
   ·refine .inr (.inr ⟨hM', B, o, cs, e, a1, hob B a2, a3, a4, a5, fun i c hc => ?_, a7, a8⟩)
    obtain ⟨v, v1, v2, v3, v4⟩ := a6 i c hc
    exact ⟨v, v1, v2.mono g bl, v3, v4.mono fun B' hB' => ⟨hon B' _ _ hB', Nat.le_refl _⟩⟩
  ·have hxb : x ≠ b := fun e => by subst e; simp [St.delB] at hq
   have hq' : st1.b x = some q := by simpa [St.delB, hxb] using hq
   show (if x = b then true else st1.u x) = true
   rw [if_neg hxb]; exact h.u x q hq'
  ·have : γ.own B = some x := by
    have hx2 : (if B = bm then none else γ.own B) = some x := hx'
    split at hx2
    ·simp at hx2
    ·exact hx2
   exact h.o B x this

 have hbmlt : bm < w.heap.size := (Array.getElem?_eq_some_iff.1 hheap).1
 refine wpIn_seq (region2 z29 a0 a1 d0 d1 ?_)
 have hat : a.tmps.size = n := hs.n.trans hn
 have ev0 : a.eval (.tmp tm) = .map (some bm) := hmv
 refine wpIn_value (v := .map (some bm)) (w' := w) (by simp only [execOp, b0]; rw [ev0]; rfl) ?_
 rw [c0]
 have ev1 : (a.put (some t0) (.map (some bm))).eval (.tmp t0) = .map (some bm) := put_same (by rw [hat]; exact l0)
 refine wpIn_value (v := .pointer (some ⟨w.heap.size, 0, none⟩)) (w' := w.alloc (.mapIter (some bm) clock #[] clock)) (by
  simp only [execOp, b1]
  rw [ev1, Sem.run_bind, run_range_map w mt kt et bm es clock hmt hheap]; rfl) ?_
 rw [c1]
 have galloc := Grow.alloc γ w (.mapIter (some bm) clock #[] clock)
 have hrAt : (w.alloc (.mapIter (some bm) clock #[] clock)).heap[w.heap.size]? = some (.mapIter (some bm) clock #[] clock) := World.alloc_heap_new w _
 have hmAt : (w.alloc (.mapIter (some bm) clock #[] clock)).heap[bm]? = some (.map es clock) := (heap_alloc w _ bm hbmlt).trans hheap
 have s1 : Sim G γ ((st.setT t0 .undef).setT it .undef) ((a.put (some t0) (.map (some bm))).put (some it) (.pointer (some ⟨w.heap.size, 0, none⟩))).tmps (w.alloc (.mapIter (some bm) clock #[] clock)) := by
  refine galloc.2.sim ?_
  have hA : Sim G γ ((st.setT t0 .undef).setT it .undef) a.tmps w := ⟨hs.n, fun i => by
   simp only [St.setT]
   split
   ·exact .undef _
   ·split
    ·exact .undef _
    ·exact hs.t i, hs.b, hs.u, hs.g, hs.o⟩
  refine Sim.putU (Sim.putU hA ?_) ?_
  ·simp only [St.setT]; split <;> simp
  ·simp [St.setT]
 have s2 := hrel ((st.setT t0 .undef).setT it .undef) _ _ rfl rfl galloc.2 rfl s1
 obtain ⟨γ1, s3, g3, pn3⟩ := h0 γ0 _ _ s2
 have hpin0 : Pin γ st.b st.u γ0 (((st.setT t0 .undef).setT it .undef).delB b).b (((st.setT t0 .undef).setT it .undef).delB b).u := (hbl ((st.setT t0 .undef).setT it .undef).t st.n).pin
 have hgr : Grow γ w γ1 (w.alloc (.mapIter (some bm) clock #[] clock)) := (galloc.1.trans (hrelG _)).trans g3
 have hpin : Pin γ st.b st.u γ1 (S s0).b (S s0).u := hpin0.trans pn3
 have hownr : γ1.own w.heap.size = none := by
  refine (g3.free w.heap.size ?_ ?_).2.1
  ·exact (Array.getElem?_eq_some_iff.1 hrAt).1
  ·show (if w.heap.size = bm then none else γ.own w.heap.size) = none
   split
   ·rfl
   ·cases ho : γ.own w.heap.size with
    | none => rfl
    | some x => have := hs.o _ x ho; omega
 have hownb : γ1.own bm = none := (g3.free bm (by have := (Array.getElem?_eq_some_iff.1 hmAt).1; exact this) (by show (if bm = bm then none else _) = none; rw [if_pos rfl])).2.1
 have hit : ((a.put (some t0) (.map (some bm))).put (some it) (.pointer (some ⟨w.heap.size, 0, none⟩))).tmps.getD it undef = .pointer (some ⟨w.heap.size, 0, none⟩) := put_same (by rw [putN, hat]; exact l1)
 have hdef : ((a.put (some t0) (.map (some bm))).put (some it) (.pointer (some ⟨w.heap.size, 0, none⟩))).defers = fx.ds := by rw [put_defers, put_defers]; exact hx.1

 show CW fx.ro P (.block B (.loop _)) (Lift G fx γ st w _) _ _
 refine wpIn_block ?_
 refine cw_loopN (fun m a' w' => ∃ (s : σ) (γ' : Gh) (seen : Array Nat) (c0 : Nat), Sim G γ' (S s) a'.tmps w' ∧ (Grow γ w γ' w' ∧ Pin γ st.b st.u γ' (S s).b (S s).u) ∧ Marks fx.mx w γ' w' fx.ds a'.defers ∧ a'.tmps.getD it undef = .pointer (some ⟨w.heap.size, 0, none⟩) ∧
   w'.heap[w.heap.size]? = some (.mapIter (some bm) clock seen c0) ∧ w'.heap[bm]? = some (.map es clock) ∧ γ'.own w.heap.size = none ∧ γ'.own bm = none ∧ clock ≤ c0 ∧ foldB body ((Z.filter fun q => !seen.contains q.1.born).map (·.2)) s = some r ∧ (Z.filter fun q => !seen.contains q.1.born).length = m)
  (fun m a' w' hI => ?_) _ _ _ ⟨s0, γ1, #[], clock, s3, ⟨hgr, hpin⟩, .of hdef, hit, hrAt, hmAt, hownr, hownb, Nat.le_refl _, by
   have : (Z.filter fun q => !(#[] : Array Nat).contains q.1.born) = Z := List.filter_eq_self.2 fun q _ => by simp
   rw [this, hZl]; exact hr, rfl⟩
 obtain ⟨s, γ', seen, cl, i1, ⟨i2, i2p⟩, i3, i4, i5, i6, i7, i8, i9, i10, i11⟩ := hI
 obtain ⟨u0, u1, u2, u3, u4, u5, u6⟩ := hS s
 have hat' : a'.tmps.size = n := i1.n.trans u0
 have hold : ∀ x, x ∈ es.toList → x.born < clock := hborn.2
 have evI : a'.eval (.tmp it) = .pointer (some ⟨w.heap.size, 0, none⟩) := i4
 refine wpIn_seq (region2 z30 e0 e1 k0 k1 ?_)
 have oex : ∀ v : Value, (a'.put (some tn) v).eval (.tmp tn) = v := fun v => put_same (by rw [hat']; exact l2)
 have hfx : ∀ (a2 : Act), a2.defers = a'.defers → True := fun _ _ => trivial
 rcases run_next_at (P := P) w' p0.type w.heap.size bm clock cl seen es clock i5 i6 hold i9 with ⟨hz, hrun⟩ | ⟨e, he, w1, hw1, hrun⟩
 ·
  refine wpIn_value (v := .tuple #[.bool false]) (w' := w') (by simp only [execOp, f0]; rw [evI, Sem.run_bind, hrun]; rfl) ?_
  rw [g0]
  refine wpIn_value (v := .bool false) (w' := w') (by simp only [execOp, f1]; rw [oex]; rfl) ?_
  rw [g1]
  show CW fx.ro P (.seq _ _) _ _ _
  have s4 : Sim G γ' (S s) ((a'.put (some tn) (.tuple #[.bool false])).put (some tb) (.bool false)).tmps w' := Sim.putU (Sim.putU i1 u2) u3
  refine wpIn_seq (wpIn_cond (t := false) (put_same (by rw [putN, hat']; exact l3)) (wpIn_exit ?_))
  have hnil : (Z.filter fun q => !seen.contains q.1.born) = [] := by
   refine List.filter_eq_nil_iff.2 fun q hq => ?_
   have hqe : q.1 ∈ es.toList := List.of_mem_zip hq |>.1
   have hl0 : leftOf es seen = #[] := Array.eq_empty_of_size_eq_zero hz
   have : q.1 ∉ (leftOf es seen) := by rw [hl0]; simp
   unfold leftOf at this
   simp only [Array.mem_filter, not_and, Bool.not_eq_true'] at this
   have h3 := this (Array.mem_toList_iff.1 hqe)
   simpa using h3
  rw [hnil] at i10
  simp only [List.map_nil, foldB, Option.some.injEq] at i10
  subst i10
  show Exit.inBlock B _ (.exit B) _ _
  simp only [Exit.inBlock, if_true]
  exact ⟨S s, γ', s4, ⟨i2, i2p⟩, by rw [put_defers, put_defers]; exact i3, rfl, rfl⟩
 ·
  have heL : e ∈ es.toList ∧ seen.contains e.born = false := by
   unfold leftOf at he
   rw [Array.mem_toList_iff, Array.mem_filter] at he
   exact ⟨Array.mem_toList_iff.2 he.1, by simpa using he.2⟩
  obtain ⟨x, hxZ⟩ := hZe e heL.1
  have hperm := left_perm seen Z (e, x) hZn hxZ heL.2
  rw [foldB_perm hcomm hperm] at i10
  simp only [foldB] at i10
  obtain ⟨s', hs', hrest⟩ := Option.bind_eq_some_iff.1 i10
  have hwh : w1.heap = w'.heap ∧ w1.os = w'.os ∧ w1.tape = w'.tape ∧ w1.output = w'.output := by rcases hw1 with rfl | rfl <;> exact ⟨rfl, rfl, rfl, rfl⟩
  have hcs1 : CellsSame w' w1 := ⟨by rw [hwh.1]; exact Nat.le_refl _, fun B cs e fz hb => by rw [hwh.1]; exact hb, fun B es c hb => by rw [hwh.1]; exact hb⟩
  have hr1 : w1.heap[w.heap.size]? = some (.mapIter (some bm) clock seen cl) := by rw [hwh.1]; exact i5
  let w2 : World := w1.putObj w.heap.size (.mapIter (some bm) clock (seen.push e.born) clock)
  have hw2 : ChangeMaps.setBlock w1 w.heap.size (.mapIter (some bm) clock (seen.push e.born) clock) = w2 := rfl
  have hcs2 : CellsSame w1 w2 := CellsSame.put hr1 rfl
  have g1' : Grow γ w γ' w1 := i2.same hcs1 (fun B _ => by rw [hwh.1]) hwh.2.1 hwh.2.2.1 hwh.2.2.2
  have g2' : Grow γ w γ' w2 := g1'.put hr1 rfl (Nat.le_refl _)
  have hr2 : w2.heap[w.heap.size]? = some (.mapIter (some bm) clock (seen.push e.born) clock) := World.putObj_heap_same (Array.getElem?_eq_some_iff.1 hr1).1
  have hm2 : w2.heap[bm]? = some (.map es clock) := by
   have : bm ≠ w.heap.size := by omega
   rw [show w2.heap[bm]? = w1.heap[bm]? from World.putObj_heap_other this, hwh.1]; exact i6
  rw [hw2] at hrun
  refine wpIn_value (v := .tuple #[.bool true, e.key, e.val]) (w' := w2) (by simp only [execOp, f0]; rw [evI, Sem.run_bind, hrun]; rfl) ?_
  rw [g0]
  refine wpIn_value (v := .bool true) (w' := w2) (by simp only [execOp, f1]; rw [oex]; rfl) ?_
  rw [g1]
  show CW fx.ro P (.seq _ _) _ _ _
  let a2 : Act := (a'.put (some tn) (.tuple #[.bool true, e.key, e.val])).put (some tb) (.bool true)
  have s4 : Sim G γ' (S s) a2.tmps w2 := Sim.putU (Sim.putU ((hcs2.sim (hcs1.sim i1))) u2) u3
  have hat2 : a2.tmps.size = n := s4.n.trans u0
  have hit2 : a2.tmps.getD it undef = .pointer (some ⟨w.heap.size, 0, none⟩) := by
   rw [put_other (fun h => n2 (by simpa using h.symm)), put_other (fun h => n1 (by simpa using h.symm))]; exact i4
  have hd2 : a2.defers = a'.defers := by rw [put_defers, put_defers]
  refine wpIn_seq (wpIn_cond (t := true) (put_same (by rw [putN, hat']; exact l3)) (wpIn_skip ?_))
  show CW fx.ro P (.block B2 _) _ _ _
  refine wpIn_block (wpIn_seq (wpIn_region ?_))
  rw [z31]
  show wpOpsIn (RF fx.ro) 0 P ops31 _ [0, 1, 2] a2 w2
  have v0 : ∀ a : Act, Region.wanted q0 (yielded ops31 a.tmps) = true := fun a => by unfold Region.wanted; rw [q0d]
  have v1 : ∀ a : Act, Region.wanted q1 (yielded ops31 a.tmps) = true := fun a => by unfold Region.wanted; rw [q1d]
  have v2 : ∀ a : Act, Region.wanted q2 (yielded ops31 a.tmps) = true := fun a => by unfold Region.wanted; rw [q2d]
  simp only [wpOpsIn, q0a, q1a, q2a, v0, v1, v2, if_true]
  have hent := run_entry_at (P := P) w2 w.heap.size bm clock seen es clock e hr2 hm2 heL.1 hborn.1
  have ev2 : a2.eval (.tmp it) = .pointer (some ⟨w.heap.size, 0, none⟩) := hit2
  refine wpIn_value (v := .tuple #[e.key, e.val]) (w' := w2) (by simp only [execOp, q0b]; rw [ev2, Sem.run_bind, hent]; rfl) ?_
  rw [q0c]
  have ev3 : (a2.put (some te) (.tuple #[e.key, e.val])).eval (.tmp te) = .tuple #[e.key, e.val] := put_same (by rw [hat2]; exact l4)
  refine wpIn_value (v := e.val) (w' := w2) (by simp only [execOp, q1b]; rw [ev3]; rfl) ?_
  rw [q1c]
  have ev4 : ((a2.put (some te) (.tuple #[e.key, e.val])).put (some tw) e.val).eval (.tmp tw) = e.val := put_same (by rw [putN, hat2]; exact l5)
  refine wpIn_value (v := e.val) (w' := w2) (by simp only [execOp, q2b]; rw [ev4]; rfl) ?_
  rw [q2c]
  let a3 : Act := ((a2.put (some te) (.tuple #[e.key, e.val])).put (some tw) e.val).put (some tv) e.val
  have s5 : Sim G γ' (S s) ((a2.put (some te) (.tuple #[e.key, e.val])).put (some tw) e.val).tmps w2 := Sim.putU (Sim.putU s4 u4) u5
  have hev : e.val = .int kd (fv x) := hZv (e, x) hxZ
  have s6 : Sim G γ' ((S s).setT tv (.int kd (fv x))) a3.tmps w2 := by
   have := s5.put (dst := some tv) (c := .int kd (fv x)) (v := e.val) (by simp only [dstOk, u0]; simpa using l6) (by rw [hev]; exact .data (.int _ _))
   exact this
  have hd3 : a3.defers = a'.defers := by show (((a2.put _ _).put _ _).put _ _).defers = _; rw [put_defers, put_defers, put_defers]; exact hd2
  have hit3 : a3.tmps.getD it undef = .pointer (some ⟨w.heap.size, 0, none⟩) := by
   show (((a2.put _ _).put _ _).put _ _).tmps.getD it undef = _
   rw [put_other (fun h => n5 (by simpa using h.symm)), put_other (fun h => n4 (by simpa using h.symm)), put_other (fun h => n3 (by simpa using h.symm))]; exact hit2
  show CW fx.ro P (.region i32 ops32 false) _ a3 w2
  have hx3 : FxOk ⟨fx.ro, a3.defers, fx.mx⟩ γ' a3.defers w2 := by
   have := (hx.step (w' := w2) (ds' := a3.defers) g2')
   exact this
  refine wpIn_region (wpOpsIn_mono (fun e5 a5 w5 hl => ?_) _ _ _ (wpOpsIn_frame f32 _ _ _ (hbody x s s' hs' ⟨fx.ro, a3.defers, fx.mx⟩ γ' a3 w2 s6 hx3)))
  obtain ⟨⟨st5, γ5, k1', ⟨k2, k2p⟩, k3, rfl, k4⟩, k5⟩ := hl
  obtain ⟨γ6, m1, m2, m3⟩ := k4 γ5 a5.tmps w5 k1'
  have k5' := k5 rfl
  have hrlt : w.heap.size < w2.heap.size := (Array.getElem?_eq_some_iff.1 hr2).1
  have hblt : bm < w2.heap.size := (Array.getElem?_eq_some_iff.1 hm2).1
  obtain ⟨x1, x2, _⟩ := (k2.trans m2).free w.heap.size hrlt i7
  obtain ⟨y1, y2, _⟩ := (k2.trans m2).free bm hblt i8
  have hmk : Marks fx.mx w γ' w2 fx.ds a3.defers := by
   rw [hd3]
   obtain ⟨Ds, b0', b1', b2', b3'⟩ := i3
   refine ⟨Ds, b0', b1', b2', fun D hD => ?_⟩
   obtain ⟨t1, t2, t3⟩ := b3' D hD
   refine ⟨t1, ?_, t3⟩
   have hDr : D ≠ w.heap.size := fun e' => by rw [e', i5] at t2; cases t2
   rw [show w2.heap[D]? = w1.heap[D]? from World.putObj_heap_other hDr, hwh.1]; exact t2
  have hmk2 : Marks fx.mx w γ6 w5 fx.ds a5.defers := by
   have h1 : w.heap.size ≤ w2.heap.size := by omega
   exact (hmk.trans k2 k3 h1).trans m2 (.of rfl) (Nat.le_trans h1 k2.size)
  have pr : Pin γ st.b st.u γ6 (S s').b (S s').u := (i2p.trans (k2p.trans m3))
  show Exit.inBlock B2 _ .normal a5 w5
  refine ⟨(Z.filter fun q => !(seen.push e.born).contains q.1.born).length, ?_, s', γ6, seen.push e.born, clock, m1, ⟨(g2'.trans k2).trans m2, pr⟩, hmk2, k5'.trans hit3, x1.trans hr2, y1.trans hm2, x2, y2, Nat.le_refl _, hrest, rfl⟩
  rw [← i11]
  have := hperm.length_eq
  simp only [List.length_map, List.length_cons] at this
  omega
end
end Go.EV
