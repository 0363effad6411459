/- The value-level logic: new variables and slice literals.
   The value-level logic: a store into a local block.
   The value-level logic: code in whatever frame (a function's own, or a round of a range over a function): rules that the fenced layer lacks; no conditions.
   The value-level logic: triples for code: sequence, test, block, loop, region in the text's order; a function's contract from the triple of its body; a call by contract.
   The value-level logic: a function's contract, from the triple of its body; a call by contract, the arguments viewed as data.
   The value-level logic: append. The slice that is appended to is used up; so is a local slice whose rows are appended. Condition: the new length in bytes is at most 2^47.
   The value-level logic: append, the operation: the model does what the value-level twin says. Condition: the new length in bytes is at most 2^47.
   The value-level logic: a state may be forgotten in part; a region run and then cut down to what is needed; calls whose arguments are seen as data.
   The value-level logic: a region that draws its order: if no two operations that the order leaves open get in each other's way, what the text's order gives is what every order gives. -/
import Derived.Test.YtioobnkmohikjaaGreatDoorY1
import Derived.OrdersIn
import Derived.Scope
import Derived.Orders
import Derived.KernelRfl
namespace Go.EV
open Go
theorem ofVal_isCell {v : Value} {c : V} (h : ofVal v = some c) : c.isCell = true ∧ c.isOwn = false := by
 unfold ofVal at h
 split at h <;> simp at h <;> subst h <;> exact ⟨rfl, rfl⟩
theorem mapM_ofVal_isCell : ∀ {l : List Value} {cs : List V}, l.mapM ofVal = some cs → ∀ c, c ∈ cs → c.isCell = true ∧ c.isOwn = false
 | [], cs, h, c, hc => by simp at h; subst h; simp at hc
 | x :: l, cs, h, c, hc => by
  simp only [List.mapM_cons, Option.bind_eq_bind, Option.bind_eq_some_iff, Option.pure_def, Option.some.injEq] at h
  obtain ⟨c', h1, cs', h2, rfl⟩ := h
  rcases List.mem_cons.1 hc with rfl | hc
  ·exact ofVal_isCell h1
  ·exact mapM_ofVal_isCell h2 c hc
theorem zeroV_isCell {P : Program} {t : TypeId} {cs : List V} (h : zeroV P t = some cs) : ∀ c, c ∈ cs → c.isCell = true ∧ c.isOwn = false := by
 replace h := (smallL_spec h).1
 unfold zeroV0 at h
 split at h
 ·split at h
  ·exact mapM_ofVal_isCell h
  ·simp at h
 ·simp at h
theorem Sim.newBox {G : Nat → Option (List V)} {γ : Gh} {st : St} {a : Act} {w : World} (h : Sim G γ st a.tmps w) {d : Nat} {cells : List V} {vs : Array Value} {e : TypeId} (hM : cells.length < MAPS) (hu : st.u d = false) (hd : d < st.n)
  (hr : CellsR γ w st.b st.u cells vs) (hc : ∀ c, c ∈ cells → c.isCell = true ∧ c.isOwn = false) :
  ∃ γ', Grow γ w γ' { w with heap := w.heap.push (.cells vs e) } ∧ Pin γ st.b st.u γ' (st.setB d ⟨cells.length, true, [cells]⟩).b (st.setB d ⟨cells.length, true, [cells]⟩).u ∧
   Sim G γ' ((st.setB d ⟨cells.length, true, [cells]⟩).setT d (.ptr d 0 0)) (a.put (some d) (.pointer (some ⟨w.heap.size, 0, none⟩))).tmps { w with heap := w.heap.push (.cells vs e) } := by
 have key := h.newBlk (d := d) (size := cells.length) (rows := [cells]) (cs := vs) (e := e) (w1 := { w with heap := w.heap.push (.cells vs e) }) hM hu rfl ⟨rfl, rfl, rfl⟩ (by simp) (by simp [hr.1]) (fun i c hi => by
  simp only [List.flatten_cons, List.flatten_nil, List.append_nil] at hi
  have hlt : i < vs.size := by rw [hr.1]; exact (List.getElem?_eq_some_iff.1 hi).1
  have hv : vs[i]? = some vs[i] := Array.getElem?_eq_getElem hlt
  obtain ⟨c1, c2⟩ := hc c (List.mem_of_getElem? hi)
  exact ⟨vs[i], hv, hr.2 i c _ hi hv, (hr.2 i c _ hi hv).isCell_one c1, c2⟩)
 refine ⟨_, key.2.1, key.2.2.pin, ?_⟩
 have hp := key.1.put (a := a) (dst := some d) (c := .ptr d 0 0) (v := .pointer (some ⟨w.heap.size, 0, none⟩)) (by simpa [dstOk, St.setB] using hd) (by
  have := Rep.ptr (γ := γ.add d w.heap.size) (w := { w with heap := w.heap.push (.cells vs e) }) (u := (st.setB d ⟨cells.length, true, [cells]⟩).u) (bs := (st.setB d ⟨cells.length, true, [cells]⟩).b) d 0 0 w.heap.size 0 ⟨cells.length, true, [cells]⟩ (by simp [St.setB]) (by simp [Gh.add]) hM
  simpa using this)
 exact hp
theorem effO_alloc {P : Program} {G : Nat → Option (List V)} {o : Oper} {st : St} {elem : TypeId} {d : Nat} {cs : List V} (ho : o.op = .alloc elem) (hd : o.dst = some d) (hn : d < st.n) (hu : st.u d = false) (hz : zeroV P elem = some cs) :
  EffO P G o st ((st.setB d ⟨cs.length, true, [cs]⟩).setT d (.ptr d 0 0)) :=
 effO_value fun γ a w hs => by
  obtain ⟨z, hz1, hz2⟩ := run_zeroV (P := P) (γ := γ) (w := w) (bs := st.b) (u := st.u) hz
  obtain ⟨γ', g, pn, hs'⟩ := hs.newBox (e := elem) (smallL_spec hz).2 hu hn hz2 (zeroV_isCell hz)
  refine ⟨_, _, γ', ?_, g, pn, by rw [hd]; exact hs'⟩
  simp [execOp, ho, Instr.alloc, hz1, newVar, newRow]
def boxV (c : V) : Option (List V) := smallL <|
 match c.cellsOf with
 | some cs => if cs.all V.isCell then some (cs.map V.strip) else none
 | none => none
theorem strip_isCell {c : V} (h : c.isCell = true) : c.strip.isCell = true := by cases c <;> simp_all [V.isCell, V.strip]
theorem CellsR.strip {γ : Gh} {w : World} {bs : Nat → Option Blk} {u : Nat → Bool} {cs : List V} {vs : Array Value} (h : CellsR γ w bs u cs vs) : CellsR γ w bs u (cs.map V.strip) vs := by
 refine ⟨by simpa using h.1, fun i c v hc hv => ?_⟩
 rw [List.getElem?_map, Option.map_eq_some_iff] at hc
 obtain ⟨c', h1, rfl⟩ := hc
 exact (h.2 i c' v h1 hv).strip
theorem boxV_spec {c : V} {cs : List V} (h : boxV c = some cs) {γ : Gh} {w : World} {bs : Nat → Option Blk} {u : Nat → Bool} {v : Value} (hr : Rep γ w bs u c v) :
  CellsR γ w bs u cs v.cells ∧ ∀ c, c ∈ cs → c.isCell = true ∧ c.isOwn = false := by
 replace h := (smallL_spec h).1
 split at h
 ·rename_i cs0 h0
  split at h <;> simp at h
  rename_i ha
  subst h
  refine ⟨(hr.cellsR h0).strip, fun c hc => ?_⟩
  obtain ⟨c', h1, rfl⟩ := List.mem_map.1 hc
  exact ⟨strip_isCell (by simpa using List.all_eq_true.1 ha c' h1), strip_own c'⟩
 ·simp at h
theorem effO_box {P : Program} {G : Nat → Option (List V)} {o : Oper} {st : St} {elem : TypeId} {x : Operand} {d : Nat} {c : V} {cs : List V} (ho : o.op = .box elem x) (hd : o.dst = some d) (hn : d < st.n) (hu : st.u d = false)
  (hx : st.ev G x = some c) (hc : boxV c = some cs) : EffO P G o st ((st.setB d ⟨cs.length, true, [cs]⟩).setT d (.ptr d 0 0)) :=
 effO_value fun γ a w hs => by
  obtain ⟨h1, h2⟩ := boxV_spec hc (hs.ev hx)
  obtain ⟨γ', g, pn, hs'⟩ := hs.newBox (e := elem) (smallL_spec hc).2 hu hn h1 h2
  refine ⟨_, _, γ', ?_, g, pn, by rw [hd]; exact hs'⟩
  simp [execOp, ho, Instr.box, newVar, newRow]
def chunk (s : Nat) : Nat → List V → List (List V)
 | 0, _ => []
 | n + 1, l => l.take s :: chunk s n (l.drop s)
theorem chunk_spec (s : Nat) : ∀ (n : Nat) (l : List V), l.length = n * s → (chunk s n l).flatten = l ∧ (chunk s n l).length = n ∧ ∀ r, r ∈ chunk s n l → r.length = s
 | 0, l, h => by
  have : l = [] := List.length_eq_zero_iff.1 (by simpa using h)
  subst this; exact ⟨rfl, rfl, fun r hr => by simp [chunk] at hr⟩
 | n + 1, l, h => by
  have hl : l.length = n * s + s := by rw [h, Nat.add_mul]; omega
  obtain ⟨h1, h2, h3⟩ := chunk_spec s n (l.drop s) (by simp [hl])
  refine ⟨by simp [chunk, h1], by simp [chunk, h2], fun r hr => ?_⟩
  simp only [chunk, List.mem_cons] at hr
  rcases hr with rfl | hr
  ·simp; omega
  ·exact h3 r hr
def zerosV (z : List V) (n : Nat) : List V := (List.range n).map fun i => z.getD (i % z.length) .undef
theorem zerosV_rep {γ : Gh} {w : World} {bs : Nat → Option Blk} {u : Nat → Bool} {z : List V} {zv : Array Value} (h : CellsR γ w bs u z zv) (n : Nat) :
  CellsR γ w bs u (zerosV z n) ((Array.range n).map (zv[· % zv.size]!)) := by
 refine ⟨by simp [zerosV], fun i c v hc hv => ?_⟩
 simp only [zerosV, List.getElem?_map, Option.map_eq_some_iff] at hc
 obtain ⟨j, hj, rfl⟩ := hc
 have hlt : i < n := by
  have := (List.getElem?_eq_some_iff.1 hj).1; simpa using this
 have hji : j = i := by
  rw [List.getElem?_range hlt] at hj; simpa using hj.symm
 subst hji
 simp only [Array.getElem?_map, Option.map_eq_some_iff] at hv
 obtain ⟨k, hk, rfl⟩ := hv
 have hkj : k = j := by
  have : (Array.range n)[j]? = some j := by simp [hlt]
  rw [this] at hk; simpa using hk.symm
 subst hkj
 rw [← h.1]
 by_cases hz : k % zv.size < zv.size
 ·have h1 : z[k % zv.size]? = some (z[k % zv.size]'(by rw [← h.1]; exact hz)) := List.getElem?_eq_getElem _
  have h2 : zv[k % zv.size]? = some (zv[k % zv.size]) := Array.getElem?_eq_getElem hz
  rw [getElem!_pos zv _ hz]
  have : z.getD (k % zv.size) .undef = z[k % zv.size]'(by rw [← h.1]; exact hz) := by rw [List.getD_eq_getElem?_getD, h1]; rfl
  rw [this]
  exact h.2 _ _ _ h1 h2
 ·have : z.getD (k % zv.size) .undef = .undef := by
   rw [List.getD_eq_getElem?_getD, List.getElem?_eq_none (by rw [← h.1]; omega)]; rfl
  rw [this]
  exact .undef _
def buildSliceV (P : Program) (t : TypeId) (n : Nat) (parts : List (Nat × V)) : Option Blk :=
 match P.underlying t with
 | some (.slice e) => match P.info? e, zeroV P e with
  | some ei, some z => if n * ei.size ≤ 16777216 ∧ ei.size < MAPS then
    match fillV (fun i => some (i * ei.size, ei.size)) (if n * ei.size = 0 then [] else zerosV z (n * ei.size)) parts with
    | some out => if out.all V.isCell && out.length == n * ei.size then some ⟨ei.size, true, chunk ei.size n (out.map V.strip)⟩ else none
    | none => none
   else none
  | _, _ => none
 | _ => none
theorem effO_buildSlice' {P : Program} {G : Nat → Option (List V)} {o : Oper} {st : St} {t : TypeId} {n : Nat} {ps : Array (Nat × Operand)} {d : Nat} {parts : List (Nat × V)} {k : Blk} (ho : o.op = .buildSlice t n ps) (hd : o.dst = some d) (hn : d < st.n) (hu : st.u d = false)
  (hx : ∀ (γ : Gh) (a : Act) (w : World), Sim G γ st a.tmps w → ps.toList.length = parts.length ∧ ∀ (j : Nat) (p : Nat × V) (x : Nat × Value), parts[j]? = some p → (ps.toList.map fun y => (y.1, a.eval y.2))[j]? = some x → p.1 = x.1 ∧ Rep γ w st.b st.u p.2 x.2) (hk : buildSliceV P t n parts = some k) : EffO P G o st ((st.setB d k).setT d (.ref d 0 n)) :=
 effO_value fun γ a w hs => by
  unfold buildSliceV at hk
  split at hk
  ·rename_i e hut
   split at hk
   ·rename_i ei z hi hz
    split at hk
    ·rename_i hsmall
     obtain ⟨hsmall, hM⟩ := hsmall
     split at hk
     ·rename_i out hf
      split at hk <;> simp at hk
      rename_i hall
      subst hk
      simp only [Bool.and_eq_true, beq_iff_eq] at hall
      obtain ⟨hall, hlen⟩ := hall
      obtain ⟨zv, hz1, hz2⟩ := run_zeroV (P := P) (γ := γ) (w := w) (bs := st.b) (u := st.u) hz
      obtain ⟨l, hp⟩ := hx γ a w hs
      have hp' : ∀ (j : Nat) (p : Nat × V) (x : Nat × Value), parts[j]? = some p → (ps.map fun (i, x) => (i, a.eval x)).toList[j]? = some x → p.1 = x.1 ∧ Rep γ w st.b st.u p.2 x.2 := by
       intro j p x h1 h2
       have : ps.toList.map (fun y => (y.1, a.eval y.2)) = (ps.map fun (i, x) => (i, a.eval x)).toList := by simp
       rw [← this] at h2
       exact hp j p x h1 h2
      have hcr : CellsR γ w st.b st.u (if n * ei.size = 0 then [] else zerosV z (n * ei.size)) ((Array.range (n * ei.size)).map ((if n * ei.size = 0 then #[] else zv.cells)[· % (if n * ei.size = 0 then #[] else zv.cells).size]!)) := by
       by_cases h0 : n * ei.size = 0
       ·simp only [h0, if_true]; exact ⟨by simp, fun i c v hc => by simp at hc⟩
       ·simp only [h0, if_false]; exact zerosV_rep hz2 _
      obtain ⟨r, hr1, hr2⟩ := fill_rep (γ := γ) (w := w) (bs := st.b) (u := st.u) _ parts (ps.map fun (i, x) => (i, a.eval x)).toList _ out _ hf hcr (by simpa using l) hp'
      obtain ⟨c1, c2, c3⟩ := chunk_spec ei.size n (out.map V.strip) (by simpa using hlen)
      have hr3 := hr2.strip
      have key := hs.newBlk (d := d) (size := ei.size) (rows := chunk ei.size n (out.map V.strip)) (cs := r) (e := e) (w1 := { w with heap := w.heap.push (.cells r e) }) hM hu rfl ⟨rfl, rfl, rfl⟩ c3 (by rw [c2, hr2.1, hlen]; exact Nat.le_refl _) (fun i c hc => by
       rw [c1] at hc
       have hlt : i < r.size := by rw [hr3.1]; exact (List.getElem?_eq_some_iff.1 hc).1
       have hv : r[i]? = some r[i] := Array.getElem?_eq_getElem hlt
       obtain ⟨c', h1, rfl⟩ := List.mem_map.1 (List.mem_of_getElem? hc)
       exact ⟨r[i], hv, hr3.2 i _ _ hc hv, (hr3.2 i _ _ hc hv).isCell_one (strip_isCell (by simpa using List.all_eq_true.1 hall c' h1)), strip_own c'⟩)
      refine ⟨.slice (some ⟨w.heap.size, 0, none⟩) n n, _, γ.add d w.heap.size, ?_, key.2.1, key.2.2.pin, ?_⟩
      ·have hns : ¬ (n * ei.size > 2 ^ 24) := by omega
       by_cases h0 : n * ei.size = 0
       ·simp only [h0, if_true] at hr1
        simp [execOp, ho, Instr.buildSlice, run_underlying hut, sizeOf, typeInfo, hi, h0, newRow]
        simp at hr1
        rw [hr1]; simp
       ·simp only [h0, if_false] at hr1
        have hr1' : Instr.fill (fun i => some (i * ei.size, ei.size)) (Array.map (fun x => zv.cells[x % zv.cells.size]!) (Array.range (n * ei.size))) (ps.map fun (i, x) => (i, a.eval x)).toList = some r := hr1
        have hzr : (do let v ← zeroValue e; pure v.cells : Sem (Array Value)).run P w = .ok zv.cells w := by simp [hz1]
        simp only [execOp, ho, Instr.buildSlice, Sem.run_bind, run_underlying hut, Result.andThen_ok, sizeOf, typeInfo, run_program, hi, Sem.run_pure, hns, h0, if_false, Sem.run_ite, hz1, hr1', newRow, run_newObj]
      ·have hb := key.1.put (a := a) (dst := some d) (c := .ref d 0 n) (v := .slice (some ⟨w.heap.size, 0, none⟩) n n) (by simpa [dstOk, St.setB] using hn) (by
        have := Rep.ref (γ := γ.add d w.heap.size) (w := { w with heap := w.heap.push (.cells r e) }) (bs := (st.setB d ⟨ei.size, true, chunk ei.size n (out.map V.strip)⟩).b) (u := (st.setB d ⟨ei.size, true, chunk ei.size n (out.map V.strip)⟩).u)
         d 0 n w.heap.size 0 n ⟨ei.size, true, chunk ei.size n (out.map V.strip)⟩ (by simp [St.setB]) (by simp [Gh.add]) (by simp [c2]) (Nat.le_refl _) ⟨r, e, (0, 0), by simp, by rw [hr2.1, hlen]; simp⟩ hM (by simp [c2])
        simpa using this)
       rw [hd]
       exact hb
     ·simp at hk
    ·simp at hk
   ·simp at hk
  ·simp at hk
theorem effO_buildSlice {P : Program} {G : Nat → Option (List V)} {o : Oper} {st : St} {t : TypeId} {n : Nat} {ps : Array (Nat × Operand)} {d : Nat} {parts : List (Nat × V)} {k : Blk} (ho : o.op = .buildSlice t n ps) (hd : o.dst = some d) (hn : d < st.n) (hu : st.u d = false)
  (hx : evParts (st.ev G) ps.toList = some parts) (hk : buildSliceV P t n parts = some k) : EffO P G o st ((st.setB d k).setT d (.ref d 0 n)) :=
 effO_buildSlice' ho hd hn hu (fun _ _ _ hs => evParts_rep hs hx) hk
end Go.EV
namespace Go.EV
open Go
def setRange (cs : Array Value) (o : Nat) : List Value → Array Value
 | [] => cs
 | v :: vs => setRange (cs.setIfInBounds o v) (o + 1) vs
theorem setRange_spec : ∀ (vs : List Value) (o : Nat) (cs : Array Value), o + vs.length ≤ cs.size →
  (setRange cs o vs).size = cs.size ∧ ∀ j : Nat, (setRange cs o vs)[j]? = if o ≤ j ∧ j < o + vs.length then vs[j - o]? else cs[j]?
 | [], o, cs, _ => ⟨rfl, fun j => by rw [if_neg (by simp)]; rfl⟩
 | v :: vs, o, cs, h => by
  simp only [List.length_cons] at h
  obtain ⟨h1, h2⟩ := setRange_spec vs (o + 1) (cs.setIfInBounds o v) (by simp; omega)
  refine ⟨by rw [setRange, h1]; simp, fun j => ?_⟩
  rw [setRange, h2]
  simp only [List.length_cons]
  by_cases hj : j = o
  ·subst hj
   rw [if_neg (by omega), if_pos (by omega)]
   have : j < cs.size := by omega
   simp [this]
  ·by_cases hin : o ≤ j ∧ j < o + (vs.length + 1)
   ·rw [if_pos (by omega), if_pos hin, show j - o = (j - (o + 1)) + 1 by omega]; simp
   ·rw [if_neg (by omega), if_neg hin, Array.getElem?_setIfInBounds, if_neg (fun e => hj e.symm)]
def World.setBlk (w : World) (B : Nat) (cs : Array Value) (e : TypeId) : World := { w with heap := w.heap.setIfInBounds B (.cells cs e (0, 0)) }
theorem setCell_eq {w : World} {B o : Nat} {cs : Array Value} {e : TypeId} (h : w.heap[B]? = some (.cells cs e (0, 0))) (v : Value) :
  w.setCell ⟨B, o, none⟩ v = World.setBlk w B (cs.setIfInBounds o v) e := by
 unfold World.setCell World.setBlk
 congr 1
 apply Array.ext_getElem?
 intro i
 rw [Array.getElem?_modify, Array.getElem?_setIfInBounds]
 by_cases hi : B = i
 ·subst hi
  obtain ⟨hB, hx⟩ := Array.getElem?_eq_some_iff.1 h
  simp [hB, hx]
 ·simp [hi]
theorem setBlk_get {w : World} {B : Nat} {cs : Array Value} {e : TypeId} (hB : B < w.heap.size) : (World.setBlk w B cs e).heap[B]? = some (.cells cs e (0, 0)) := by
 simp [World.setBlk, hB]
theorem setBlk_ne {w : World} {B i : Nat} {cs : Array Value} {e : TypeId} (h : i ≠ B) : (World.setBlk w B cs e).heap[i]? = w.heap[i]? := by
 simp only [World.setBlk, Array.getElem?_setIfInBounds]; rw [if_neg (fun x => h x.symm)]
theorem setBlk_setBlk (w : World) (B : Nat) (cs cs' : Array Value) (e : TypeId) : World.setBlk (World.setBlk w B cs e) B cs' e = World.setBlk w B cs' e := by
 simp [World.setBlk, Array.setIfInBounds_setIfInBounds]
theorem run_storeCells {P : Program} {B o : Nat} {e : TypeId} : ∀ (vs : List Value) (i : Nat) (w : World) (cs : Array Value), w.heap[B]? = some (.cells cs e (0, 0)) → (∀ v, v ∈ vs → v.oneCell' = true) → o + i + vs.length ≤ cs.size →
  (storeCells ⟨B, o, none⟩ vs i).run P w = .ok () (World.setBlk w B (setRange cs (o + i) vs) e)
 | [], i, w, cs, h, _, _ => by
  have : World.setBlk w B cs e = w := by
   unfold World.setBlk
   have : w.heap.setIfInBounds B (.cells cs e (0, 0)) = w.heap := by
    apply Array.ext_getElem?
    intro j
    rw [Array.getElem?_setIfInBounds]
    split
    ·rename_i hj; subst hj
     split
     ·exact h.symm
     ·rename_i hb; rw [Array.getElem?_eq_none (by omega)] at h; simp at h
    ·rfl
   rw [this]
  simp [storeCells, setRange, this]
 | v :: vs, i, w, cs, h, h1, hl => by
  simp only [List.length_cons] at hl
  have hB : B < w.heap.size := by
   rcases Nat.lt_or_ge B w.heap.size with hb | hb
   ·exact hb
   ·rw [Array.getElem?_eq_none hb] at h; simp at h
  have hc : w.cell? ⟨B, o + i, none⟩ = some (cs[o + i]'(by omega)) := by
   unfold World.cell?
   simp [h]
  have hf : w.frozen? ⟨B, o + i, none⟩ = false := by
   unfold World.frozen?
   simp [h]
  have hst : (store ((⟨B, o, none⟩ : Addr).add i) v).run P w = .ok () (World.setBlk w B (cs.setIfInBounds (o + i) v) e) := by
   rw [run_store P w _ v .plain (h1 v (by simp)), Addr.add_eq]
   simp only [hc, hf, Bool.false_eq_true, if_false, setCell_eq h]
  have ih := run_storeCells (P := P) (B := B) (o := o) vs (i + 1) (World.setBlk w B (cs.setIfInBounds (o + i) v) e) (cs.setIfInBounds (o + i) v) (setBlk_get hB) (fun x hx => h1 x (by simp [hx])) (by simp; omega)
  rw [setBlk_setBlk] at ih
  rw [show storeCells ⟨B, o, none⟩ (v :: vs) i = (store ((⟨B, o, none⟩ : Addr).add i) v >>= fun _ => storeCells ⟨B, o, none⟩ vs (i + 1)) from rfl, Sem.run_bind, hst, Result.andThen_ok, ih]
  rfl
theorem cellAt_setBlk_ne {w : World} {B B' o : Nat} {cs : Array Value} {e : TypeId} (h : B' ≠ B) : cellAt (World.setBlk w B cs e) B' o = cellAt w B' o := by
 unfold cellAt World.cell?
 simp only [setBlk_ne h]
theorem Grow.setBlk {γ : Gh} {w : World} {B : Nat} {cs cs' : Array Value} {e : TypeId} {x : Owner} (h : w.heap[B]? = some (.cells cs e (0, 0))) (hs : cs'.size = cs.size) (hl : ∀ o v, o < γ.lim B → cs[o]? = some v → cs'[o]? = some v) (hown : γ.own B = some x) : Grow γ w γ (World.setBlk w B cs' e) where
 os := rfl
 tape := rfl
 output := rfl
 size := by simp [World.setBlk]
 imm := fun B' o v ho hc => by
  by_cases hb : B' = B
  ·subst hb
   have hB := cellAt_lt hc
   unfold cellAt World.cell? at hc ⊢
   simp only [h] at hc
   simp only [setBlk_get hB]
   simp only [Option.isSome_none, Bool.false_eq_true, if_false] at hc ⊢
   exact hl o v ho hc
  ·rw [cellAt_setBlk_ne hb]; exact hc
 lim := fun _ _ => Nat.le_refl _
 free := fun B' hB ho => ⟨setBlk_ne (fun e => by subst e; rw [hown] at ho; simp at ho), ho, rfl⟩
 room := fun B' cs2 e2 fz hc => by
  by_cases hb : B' = B
  ·subst hb
   have hB : B' < w.heap.size := by
    rcases Nat.lt_or_ge B' w.heap.size with hb | hb
    ·exact hb
    ·rw [Array.getElem?_eq_none hb] at h; simp at h
   rw [h] at hc; simp only [Option.some.injEq, Obj.cells.injEq] at hc
   obtain ⟨rfl, rfl, rfl⟩ := hc
   exact ⟨cs', setBlk_get hB, hs⟩
  ·exact ⟨cs2, by rw [setBlk_ne hb]; exact hc, rfl⟩
theorem Sim.storeBlk {G : Nat → Option (List V)} {γ : Gh} {st : St} {tmps : Array Value} {w : World} (h : Sim G γ st tmps w) {b : Nat} {k : Blk} (hk : st.b b = some k) (hM : k.size < MAPS) {B o : Nat} {cs cs' : Array Value} {e : TypeId} {rows' : List (List V)}
  (hloc : γ.loc b = some (B, o)) (hown : γ.own B = some (.blk b)) (hheap : w.heap[B]? = some (.cells cs e (0, 0))) (hsz : cs'.size = cs.size) (hlim : γ.lim B = 0)
  (hrows : ∀ r, r ∈ rows' → r.length = k.size) (hlen : rows'.length = k.rows.length) (hroom : o + k.rows.length * k.size ≤ cs.size)
  (hcells : ∀ (i : Nat) (c : V), rows'.flatten[i]? = some c → ∃ v, cs'[o + i]? = some v ∧ Rep γ w st.b st.u c v ∧ v.oneCell' = true ∧ Right γ w (.nest b (i / k.size) (i % k.size)) c v) :
  Sim G γ (st.setB b ⟨k.size, k.excl, rows'⟩) tmps (World.setBlk w B cs' e) ∧ Grow γ w γ (World.setBlk w B cs' e) ∧ BsLe γ st.b st.u γ (st.setB b ⟨k.size, k.excl, rows'⟩).b (st.setB b ⟨k.size, k.excl, rows'⟩).u := by
 have g : Grow γ w γ (World.setBlk w B cs' e) := Grow.setBlk hheap hsz (fun o v ho _ => by omega) hown
 have hu := h.u b k hk
 have bl : BsLe γ st.b st.u γ (st.setB b ⟨k.size, k.excl, rows'⟩).b (st.setB b ⟨k.size, k.excl, rows'⟩).u := by
  refine ⟨fun b' hb => by simp only [St.setB]; split <;> simp_all, fun b' hb hn => ?_, fun b' k' hk' => ?_⟩
  ·have : b' ≠ b := fun e => by subst e; rw [hk] at hn; simp at hn
   simp only [St.setB]; rw [if_neg this]; exact hn
  ·by_cases hb : b' = b
   ·subst hb
    rw [hk] at hk'; simp only [Option.some.injEq] at hk'; subst hk'
    exact ⟨by simp [St.setB], .inr ⟨⟨k.size, k.excl, rows'⟩, by simp [St.setB], rfl, fun _ => hlen, rfl⟩⟩
   ·exact ⟨by simp only [St.setB]; rw [if_neg hb]; exact h.u b' k' hk', .inr ⟨k', by simp only [St.setB]; rw [if_neg hb]; exact hk', rfl, fun _ => rfl, rfl⟩⟩
 have hB : B < w.heap.size := h.o B _ hown
 refine ⟨⟨h.n, fun i => (h.t i).mono g bl, fun b' k' hk' => ?_, fun b' k' hk' => ?_, h.g.grow g, fun B' x hx => by simpa [World.setBlk] using h.o B' x hx⟩, g, bl⟩
 ·simp only [St.setB] at hk'
  by_cases hb : b' = b
  ·subst hb
   rw [if_pos rfl] at hk'
   simp only [Option.some.injEq] at hk'; subst hk'
   refine .inr (.inr ⟨hM, B, o, cs', e, hloc, hown, setBlk_get hB, hrows, by rw [hsz]; simpa [hlen] using hroom, fun i c hc => ?_, fun _ => hlim, by rw [hlim]; exact Nat.zero_le _⟩)
   obtain ⟨v, h1, h2, h3, h4⟩ := hcells i c hc
   exact ⟨v, h1, h2.mono g bl, h3, h4.grow g⟩
  ·rw [if_neg hb] at hk'
   rcases h.b b' k' hk' with ⟨v1, v2⟩ | hm | ⟨hM2, B2, o2, cs2, e2, h1, h2, h3, h4, h5, h6, h7, h8⟩
   ·exact .inl ⟨v1, v2⟩
   ·exact .inr (.inl (hm.same rfl (fun B2 _ hB2 => ⟨hB2, setBlk_ne fun e => by subst e; rw [hown] at hB2; simp only [Option.some.injEq, Owner.blk.injEq] at hB2; exact hb hB2.symm⟩) fun c v hr => hr.mono g bl))
   have hne : B2 ≠ B := fun e => by subst e; rw [hown] at h2; simp only [Option.some.injEq, Owner.blk.injEq] at h2; exact hb h2.symm
   refine .inr (.inr ⟨hM2, B2, o2, cs2, e2, h1, h2, by rw [setBlk_ne hne]; exact h3, h4, h5, fun i c hc => ?_, h7, h8⟩)
   obtain ⟨v, a1, a2, a3, a4⟩ := h6 i c hc
   exact ⟨v, a1, a2.mono g bl, a3, a4.grow g⟩
 ·simp only [St.setB] at hk' ⊢
  by_cases hb : b' = b
  ·subst hb; simp
  ·rw [if_neg hb] at hk'; rw [if_neg hb]; exact h.u b' k' hk'
def storeBlkV (P : Program) (t : TypeId) (k : Blk) (i off : Nat) (c : V) : Option Blk :=
 match P.info? t, boxV c, k.rows[i]? with
 | some ti, some cs, some r => if ti.size = cs.length ∧ off + cs.length ≤ k.size ∧ k.excl = true then some ⟨k.size, k.excl, k.rows.set i (spliceV r off cs)⟩ else none
 | _, _, _ => none
theorem splice_get (r : List V) (off : Nat) (cs : List V) (h : off + cs.length ≤ r.length) (j : Nat) :
  (spliceV r off cs)[j]? = if off ≤ j ∧ j < off + cs.length then cs[j - off]? else r[j]? := by
 unfold spliceV
 have lt : (r.take off).length = off := by simp; omega
 by_cases h1 : j < off
 ·rw [if_neg (by omega), List.append_assoc, List.getElem?_append_left (by omega), List.getElem?_take, if_pos h1]
 ·rw [List.append_assoc, List.getElem?_append_right (by omega), lt]
  by_cases h2 : j < off + cs.length
  ·rw [if_pos (by omega), List.getElem?_append_left (by omega)]
  ·rw [if_neg (by omega), List.getElem?_append_right (by omega), List.getElem?_drop]
   rw [show off + cs.length + (j - off - cs.length) = j by omega]
theorem splice_length (r : List V) (off : Nat) (cs : List V) (h : off + cs.length ≤ r.length) : (spliceV r off cs).length = r.length := by
 simp [spliceV]; omega
def Evs (G : Nat → Option (List V)) (st : St) (x : Operand) (c : V) : Prop := ∀ (γ : Gh) (a : Act) (w : World), Sim G γ st a.tmps w → Rep γ w st.b st.u c (a.eval x)
theorem effO_store' {P : Program} {G : Nat → Option (List V)} {o : Oper} {st : St} {t : TypeId} {x y : Operand} {b i off : Nat} {c : V} {k k' : Blk} (ho : o.op = .store t x y) (hd : o.dst = none)
    (hx : Evs G st x (.ptr b i off)) (hy : Evs G st y c) (hk : st.b b = some k) (hs : storeBlkV P t k i off c = some k') : EffO P G o st (st.setB b k') :=
  effO_skip fun γ a w hsim => by
    unfold storeBlkV at hs
    split at hs
    · rename_i ti cs r hti hcs hrow
      split at hs <;> simp at hs
      rename_i hb
      subst hs
      obtain ⟨hsz, hoff, hex⟩ := hb
      obtain ⟨B, o', hv, hl⟩ := (hx γ a w hsim).ptr_inv hk
      have hM := (hx γ a w hsim).ptr_small hk
      obtain ⟨hcr, hcell⟩ := boxV_spec hcs (hy γ a w hsim)
      rcases hsim.b b k hk with ⟨v1, _⟩ | hm | ⟨_, B2, o2, cs2, e2, h1, h2, h3, h4, h5, h6, h7, h8⟩
      · rw [hl] at v1; simp at v1
      · exact (hm.small hM).elim
      rw [hl] at h1; simp only [Option.some.injEq, Prod.mk.injEq] at h1
      obtain ⟨rfl, rfl⟩ := h1
      have hi : i < k.rows.length := (List.getElem?_eq_some_iff.1 hrow).1
      have hrl := h4 r (List.mem_of_getElem? hrow)
      have hin : (i + 1) * k.size ≤ k.rows.length * k.size := Nat.mul_le_mul_right _ hi
      rw [Nat.add_mul] at hin
      have hvl : (a.eval y).cells.toList.length = cs.length := by simpa using hcr.1
      have hone : ∀ v, v ∈ (a.eval y).cells.toList → v.oneCell' = true := fun v hv => by
        obtain ⟨j, hj, rfl⟩ := List.getElem_of_mem hv
        have hjc : j < cs.length := by rw [← hvl]; exact hj
        have := hcr.2 j cs[j] _ (List.getElem?_eq_getElem hjc) (by rw [Array.getElem?_eq_getElem (by simpa using hj)])
        exact this.isCell_one (hcell cs[j] (List.getElem_mem hjc)).1
      have hrun := run_storeCells (P := P) (B := B) (o := o' + (i * k.size + off)) (e := e2) (a.eval y).cells.toList 0 w cs2 h3 hone (by rw [hvl]; omega)
      obtain ⟨r1, r2⟩ := setRange_spec (a.eval y).cells.toList (o' + (i * k.size + off) + 0) cs2 (by rw [hvl]; omega)
      have key := hsim.storeBlk (cs' := setRange cs2 (o' + (i * k.size + off) + 0) (a.eval y).cells.toList) (rows' := k.rows.set i (spliceV r off cs)) hk hM hl h2 h3 r1 (h7 hex)
        (fun q hq => by
          rcases List.mem_or_eq_of_mem_set hq with hq | rfl
          · exact h4 q hq
          · rw [splice_length r off cs (by omega), hrl])
        (by simp) h5 (fun idx c' hc' => by
          rcases Nat.eq_zero_or_pos k.size with hz | hpos
          · exfalso
            have : ((k.rows.set i (spliceV r off cs)).flatten) = [] := by
              rw [List.flatten_eq_nil_iff]
              intro q hq
              have : q.length = k.size := by
                rcases List.mem_or_eq_of_mem_set hq with hq | rfl
                · exact h4 q hq
                · rw [splice_length r off cs (by omega), hrl]
              exact List.length_eq_zero_iff.1 (by omega)
            rw [this] at hc'; simp at hc'
          · have e : idx = (idx / k.size) * k.size + idx % k.size := by rw [Nat.mul_comm]; exact (Nat.div_add_mod idx k.size).symm
            have hm := Nat.mod_lt idx hpos
            have hall : ∀ q, q ∈ k.rows.set i (spliceV r off cs) → q.length = k.size := fun q hq => by
              rcases List.mem_or_eq_of_mem_set hq with hq | rfl
              · exact h4 q hq
              · rw [splice_length r off cs (by omega), hrl]
            have hget := flatten_get _ hall (idx / k.size) (idx % k.size) hm
            rw [← e, hc'] at hget
            rw [r2, hvl]
            by_cases hq : idx / k.size = i
            · rw [hq, List.getElem?_set_self hi] at hget
              simp only [Option.bind_some] at hget
              rw [splice_get r off cs (by omega)] at hget
              rw [hq] at e
              by_cases hin2 : off ≤ idx % k.size ∧ idx % k.size < off + cs.length
              · rw [if_pos hin2] at hget
                rw [if_pos (by omega)]
                have hj : idx % k.size - off < (a.eval y).cells.toList.length := by rw [hvl]; omega
                refine ⟨(a.eval y).cells.toList[idx % k.size - off], ?_, ?_, hone _ (List.getElem_mem hj), .of_not_own (hcell c' (List.mem_of_getElem? hget.symm)).2⟩
                · rw [show o' + idx - (o' + (i * k.size + off) + 0) = idx % k.size - off by omega]
                  exact List.getElem?_eq_getElem hj
                · exact hcr.2 (idx % k.size - off) c' _ hget.symm (by rw [Array.getElem?_eq_getElem (by simpa using hj)]; simp)
              · rw [if_neg hin2] at hget
                rw [if_neg (by omega)]
                exact h6 idx c' (by rw [e, flatten_get k.rows h4 i (idx % k.size) hm, hrow]; exact hget.symm)
            · rw [List.getElem?_set_ne (fun x => hq x.symm)] at hget
              have hno : ¬ (o' + (i * k.size + off) + 0 ≤ o' + idx ∧ o' + idx < o' + (i * k.size + off) + 0 + cs.length) := by
                intro hc
                apply hq
                have a1 : i * k.size ≤ idx := by omega
                have a2 : idx < (i + 1) * k.size := by rw [Nat.add_mul]; omega
                exact Nat.div_eq_of_lt_le a1 a2
              rw [if_neg hno]
              exact h6 idx c' (by rw [e, flatten_get k.rows h4 _ (idx % k.size) hm]; exact hget.symm))
      refine ⟨_, γ, ?_, key.2.1, key.2.2.pin, by rw [hd]; exact key.1⟩
      have hsize : ¬ ((a.eval y).cells.size ≠ ti.size) := by rw [hcr.1, hsz]; simp
      simp only [execOp, ho, Instr.storeAt, hv, Instr.sureAddr, storeVar, sizeOf, typeInfo, hti, Sem.run_bind, run_program, Sem.run_pure, Result.andThen_ok, Sem.run_ite, hsize, if_false, hrun]
    · simp at hs
theorem effO_store {P : Program} {G : Nat → Option (List V)} {o : Oper} {st : St} {t : TypeId} {x y : Operand} {b i off : Nat} {c : V} {k k' : Blk} (ho : o.op = .store t x y) (hd : o.dst = none)
  (hx : st.ev G x = some (.ptr b i off)) (hy : st.ev G y = some c) (hk : st.b b = some k) (hs : storeBlkV P t k i off c = some k') : EffO P G o st (st.setB b k') :=
 effO_store' ho hd (fun _ _ _ h => h.ev hx) (fun _ _ _ h => h.ev hy) hk hs
end Go.EV
namespace Go.EV
open Go
def RF (ro : Option Nat) : Fence := { Fence.wide with round := ro }
theorem RF.room (ro : Option Nat) (n : Nat) : (RF ro).room n := fun _ h => by simp [RF, Fence.wide] at h
theorem RF.fenced (ro : Option Nat) (P : Program) (m : Machine) : m.fenced P (RF ro) := fenced_wide P m
abbrev CW (ro : Option Nat) (P : Program) (c : Code) (Q : Exit → Act → World → Prop) (a : Act) (w : World) : Prop := c.wpIn (RF ro) 0 P Q a w
theorem calls_in {ro : Option Nat} {P : Program} {f : FuncId} {args : Array Value} {w : World} {R : Ending → World → Prop} (h : Calls P f args w R) : CallsIn (RF ro) 0 P f args w R := (callsIn_wide (n := 0)).2 h
theorem rows_in {ro : Option Nat} {P : Program} {row : String} {args : Array Value} {w : World} {R : Value → World → Prop} (h : Rows P row args w R) : RowsIn (RF ro) 0 P row args w R :=
 fun c cs _ => let ⟨v, w', r, s⟩ := h c cs; ⟨v, w', r, stepsIn_wide.2 s⟩
theorem upon_in {ro : Option Nat} {P : Program} {o : Oper} {a : Act} {next : Act → World → Prop} {Q : Exit → Act → World → Prop} : ∀ {r : Result Next}, o.upon P a next Q r → o.uponIn (RF ro) 0 P a next Q r
 | .ok (.value _) _, h => h
 | .ok .skip _, h => h
 | .ok (.defer _) _, h => h
 | .ok (.enter _ _) _, h => ⟨fun h => by simp [RF, Fence.wide] at h, calls_in h⟩
 | .ok (.row _ _) _, h => ⟨fun h => by simp [RF, Fence.wide] at h, rows_in h⟩
 | .halt (.panic _) _, h => h
theorem op_in {ro : Option Nat} {P : Program} {o : Oper} {a : Act} {w : World} {next : Act → World → Prop} {Q : Exit → Act → World → Prop}
  (h0 : o.wp P a w (fun a' _ => a'.defers = a.defers) (fun _ _ _ => False)) (h : o.wp P a w next Q) : o.wpIn (RF ro) 0 P a w next Q := by
 refine ⟨fun _ _ => trivial, ?_⟩
 have hnd : ∀ c, o.op ≠ .defer c := by
  intro c hc
  unfold Oper.wp at h0
  have e : execOp a.eval o = (do let d ← resolve a.eval c o.type; pure (Next.defer d)) := by
   unfold execOp; rw [hc]
  rw [e, Sem.run_bind] at h0
  cases hr : (resolve a.eval c o.type).run P w with
  | ok d w' =>
   rw [hr, Result.andThen_ok] at h0
   have h1 : ({ a with defers := d :: a.defers }.put o.dst undef).defers = a.defers := h0
   rw [put_defers] at h1
   simp at h1
  | halt x w' =>
   rw [hr] at h0
   cases x <;> first | exact h0 | exact h0.elim
 rw [Oper.semAt_eq _ _ _ hnd]
 exact upon_in h
section
variable {ro : Option Nat} {P : Program} {Q : Exit → Act → World → Prop} {a : Act} {w : World}
theorem stepR_scope {b : Frame} {k : List Item} {cs : List Frame} {c : Code} : step P (lone (b.atR a (.code (.scope c) :: k)) cs w) = .next (lone (b.atR a (.code c :: .inScope c :: k)) cs w) :=
 step_lone_go (by simp [stepG, stepG.exec, Frame.atR])
theorem stepR_inScope {b : Frame} {k : List Item} {cs : List Frame} {c : Code} : step P (lone (b.atR a (.inScope c :: k)) cs w) = .next (lone (b.atR a k) cs w) :=
 step_lone_go (by simp [stepG, stepG.exec, Frame.atR])
theorem cw_scope_straight {c : Code} (h : CW ro P c (Exit.noGoto Q) a w) : CW ro P (.scope c) Q a w := by
 intro b k cs hro hb hr
 have h0 : (lone (b.atR a (.code (.scope c) :: k)) cs w).fenced P (RF ro) := RF.fenced _ _ _
 obtain ⟨e, a₁, w₁, hq, harr⟩ := h b (.inScope c :: k) cs hro hb hr
 cases e with
 | normal => exact ⟨.normal, a₁, w₁, hq, .head h0 stepR_scope (StepsIn.trans harr (.one (RF.fenced _ _ _) stepR_inScope))⟩
 | exit id =>
  have hx : exitTo id (.inScope c :: k) = exitTo id k := by simp [exitTo]
  exact ⟨.exit id, a₁, w₁, hq, fun k' hk => .head h0 stepR_scope (harr.1 k' (by rw [hx]; exact hk)),
   fun hr' hk => let ⟨k₁, h1, h2⟩ := harr.2 hr' (by rw [hx]; exact hk); ⟨k₁, h1, .head h0 stepR_scope h2⟩⟩
 | goto l => exact hq.elim
 | ret => exact ⟨_, a₁, w₁, hq, .of_steps (.one h0 stepR_scope) harr⟩
 | panic ch => exact ⟨_, a₁, w₁, hq, .of_steps (.one h0 stepR_scope) harr⟩
 | outgrown => exact ⟨_, a₁, w₁, hq, .of_steps (.one h0 stepR_scope) harr⟩
def CWin (ro : Option Nat) (P : Program) (c : Code) (Q : Exit → Act → World → Prop) (a : Act) (w : World) : Prop :=
 ∀ (b : Frame) (k : List Item) (cs : List Frame), b.roundOf = ro → ∃ e a' w', Q e a' w' ∧ ArrivesIn (Machine.fenced P (RF ro)) P (lone (b.atR a (.inLoop c :: k)) cs w) b k cs e a' w'
theorem cw_loop_start {c : Code} {m : Frame → List Item → List Frame → Machine}
  (hm : ∀ b k cs, StepsIn (Machine.fenced P (RF ro)) P (m b k cs) (lone (b.atR a (.code c :: .inLoop c :: k)) cs w)) (h : CW ro P c (Exit.then (CWin ro P c Q) Q) a w) :
  ∀ (b : Frame) (k : List Item) (cs : List Frame), b.roundOf = ro → ∃ e a' w', Q e a' w' ∧ ArrivesIn (Machine.fenced P (RF ro)) P (m b k cs) b k cs e a' w' := by
 intro b k cs hro
 obtain ⟨e, a₁, w₁, hq, harr⟩ := h b (.inLoop c :: k) cs hro trivial (RF.room _ _)
 cases e with
 | normal =>
  obtain ⟨e₂, a₂, w₂, hq₂, harr₂⟩ := hq b k cs hro
  exact ⟨e₂, a₂, w₂, hq₂, .of_steps (StepsIn.trans (hm b k cs) harr) harr₂⟩
 | exit id => exact ⟨_, a₁, w₁, hq, .of_steps (hm b k cs) (.pass (x := .inLoop c) rfl (fun _ _ => .inl (by simp)) harr)⟩
 | goto l => exact ⟨_, a₁, w₁, hq, .of_steps (hm b k cs) (.pass (x := .inLoop c) rfl (fun _ _ => .inl (by simp)) harr)⟩
 | ret => exact ⟨_, a₁, w₁, hq, .of_steps (hm b k cs) (.pass (x := .inLoop c) rfl (fun _ _ => .inl (by simp)) harr)⟩
 | panic ch => exact ⟨_, a₁, w₁, hq, .of_steps (hm b k cs) (.pass (x := .inLoop c) rfl (fun _ _ => .inl (by simp)) harr)⟩
 | outgrown => exact ⟨_, a₁, w₁, hq, .of_steps (hm b k cs) (.pass (x := .inLoop c) rfl (fun _ _ => .inl (by simp)) harr)⟩
theorem cw_loop_once {c : Code} (h : CW ro P c (Exit.then (CWin ro P c Q) Q) a w) : CW ro P (.loop c) Q a w := fun b k cs hro _ _ =>
 cw_loop_start (m := fun b k cs => lone (b.atR a (.code (.loop c) :: k)) cs w) (fun _ _ _ => .one (RF.fenced _ _ _) stepR_loop) h b k cs hro
theorem cwIn_once {c : Code} (h : CW ro P c (Exit.then (CWin ro P c Q) Q) a w) : CWin ro P c Q a w :=
 cw_loop_start (m := fun b k cs => lone (b.atR a (.inLoop c :: k)) cs w) (fun _ _ _ => .one (RF.fenced _ _ _) stepR_inLoop) h
theorem cwIn_mono {Q' : Exit → Act → World → Prop} {c : Code} (h : CWin ro P c Q a w) (hq : ∀ e a w, Q e a w → Q' e a w) : CWin ro P c Q' a w := fun b k cs hro => by
 obtain ⟨e, a', w', h1, h2⟩ := h b k cs hro
 exact ⟨e, a', w', hq _ _ _ h1, h2⟩
theorem cw_loopN {c : Code} (I : Nat → Act → World → Prop)
  (round : ∀ n a w, I n a w → CW ro P c (Exit.then (fun a' w' => ∃ m, m < n ∧ I m a' w') Q) a w) : ∀ (n : Nat) (a : Act) (w : World), I n a w → CW ro P (.loop c) Q a w := by
 intro n
 induction n using Nat.strongRecOn with
 | _ n ih =>
  intro a w hI
  have key : ∀ n a w, I n a w → CWin ro P c Q a w := by
   intro n
   induction n using Nat.strongRecOn with
   | _ n ih => exact fun a w hI => cwIn_once (wpIn_mono (round n a w hI) fun e a' w' hq => by
     cases e with
     | normal => obtain ⟨m, hm, h⟩ := hq; exact ih m hm a' w' h
     | _ => exact hq)
  exact cw_loop_once (wpIn_mono (round n a w hI) fun e a' w' hq => by
   cases e with
   | normal => obtain ⟨m, hm, h⟩ := hq; exact key m a' w' h
   | _ => exact hq)
theorem wpOpsIn_mono {F : Fence} {n : Nat} {ops : Array Oper} {Q Q' : Exit → Act → World → Prop} (hq : ∀ e a w, Q e a w → Q' e a w) : ∀ (l : List Nat) (a : Act) (w : World), wpOpsIn F n P ops Q l a w → wpOpsIn F n P ops Q' l a w
 | [], a, w, h => hq _ _ _ h
 | i :: rest, a, w, h => by
  simp only [wpOpsIn] at h ⊢
  split
  ·rename_i hi; rw [hi] at h; exact wpOpsIn_mono hq rest a w h
  ·rename_i o hi
   rw [hi] at h
   simp only at h ⊢
   split
   ·rename_i hw
    rw [if_pos hw] at h
    refine ⟨h.1, ?_⟩
    have h := h.2
    unfold Oper.uponIn at h ⊢
    split at h
    ·exact wpOpsIn_mono hq rest _ _ h
    ·exact wpOpsIn_mono hq rest _ _ h
    ·exact wpOpsIn_mono hq rest _ _ h
    ·refine ⟨h.1, CallsIn.mono h.2 fun e w' hr => ?_⟩
     cases e with
     | returned v => exact wpOpsIn_mono hq rest _ _ hr
     | panicked ch => exact hq _ _ _ hr
     | outgrown => obtain ⟨a0, w0, h2⟩ := hr; exact ⟨a0, w0, hq _ _ _ h2⟩
    ·exact ⟨h.1, RowsIn.mono h.2 fun v w' hr => wpOpsIn_mono hq rest _ _ hr⟩
    ·refine ⟨h.1, RoundIn.mono h.2 fun e w' hr => ?_⟩
     cases e with
     | returned v => exact wpOpsIn_mono hq rest _ _ hr
     | panicked ch => exact hq _ _ _ hr
     | outgrown => obtain ⟨a0, w0, h2⟩ := hr; exact ⟨a0, w0, hq _ _ _ h2⟩
    ·exact hq _ _ _ h
    ·exact h.elim
   ·rename_i hw; rw [if_neg hw] at h; exact ⟨h.1, wpOpsIn_mono hq rest _ _ h.2⟩
end
end Go.EV
namespace Go.EV
open Go
def markD (D : Nat) : Deferred := { target := .collected D, args := #[] }
def Marks (mk : Bool) (w : World) (γ' : Gh) (w' : World) (ds ds' : List Deferred) : Prop :=
 ∃ Ds : List Nat, (mk = false → Ds = []) ∧ ds' = Ds.map markD ++ ds ∧ Ds.Nodup ∧ ∀ D, D ∈ Ds → w.heap.size ≤ D ∧ w'.heap[D]? = some (.deferred (some [])) ∧ γ'.own D = none
theorem Marks.of {mk : Bool} {w w' : World} {γ' : Gh} {ds ds' : List Deferred} (h : ds' = ds) : Marks mk w γ' w' ds ds' := ⟨[], fun _ => rfl, by simpa using h, by simp, fun D hD => by simp at hD⟩
theorem Marks.start {mk : Bool} {w w1 w' : World} {γ' : Gh} {ds ds' : List Deferred} (h : Marks mk w1 γ' w' ds ds') (hw : w.heap.size ≤ w1.heap.size) : Marks mk w γ' w' ds ds' := by
 obtain ⟨Ds, h0, h1, h2, h3⟩ := h
 exact ⟨Ds, h0, h1, h2, fun D hD => ⟨Nat.le_trans hw (h3 D hD).1, (h3 D hD).2⟩⟩
theorem Marks.trans {mk : Bool} {w w1 w2 : World} {γ1 γ2 : Gh} {ds ds1 ds2 : List Deferred} (h : Marks mk w γ1 w1 ds ds1) (g : Grow γ1 w1 γ2 w2) (k : Marks mk w1 γ2 w2 ds1 ds2) (hw : w.heap.size ≤ w1.heap.size) : Marks mk w γ2 w2 ds ds2 := by
 obtain ⟨Ds, h0, h1, h2, h3⟩ := h
 obtain ⟨Es, k0, k1, k2, k3⟩ := k
 have lt : ∀ D, D ∈ Ds → D < w1.heap.size := fun D hD => (Array.getElem?_eq_some_iff.1 (h3 D hD).2.1).1
 refine ⟨Es ++ Ds, fun h => by rw [h0 h, k0 h]; rfl, by rw [k1, h1]; simp, List.nodup_append.2 ⟨k2, h2, fun x hx y hy e => ?_⟩, fun D hD => ?_⟩
 ·subst e
  have := lt x hy
  have := (k3 x hx).1
  omega
 ·rcases List.mem_append.1 hD with hD | hD
  ·exact ⟨Nat.le_trans hw (k3 D hD).1, (k3 D hD).2⟩
  ·obtain ⟨a1, a2, a3⟩ := h3 D hD
   obtain ⟨b1, b2, _⟩ := g.free D (lt D hD) a3
   exact ⟨a1, b1.trans a2, b2⟩
def Lift (G : Nat → Option (List V)) (fx : Fx) (γ : Gh) (st : St) (w : World) (Q : Exit → St → Prop) (e : Exit) (a' : Act) (w' : World) : Prop :=
 ∃ st' γ', Sim G γ' st' a'.tmps w' ∧ (Grow γ w γ' w' ∧ Pin γ st.b st.u γ' st'.b st'.u) ∧ Marks fx.mx w γ' w' fx.ds a'.defers ∧ Q e st'
def FxOk (fx : Fx) (γ : Gh) (ds : List Deferred) (w : World) : Prop :=
 ds = fx.ds ∧ fx.mx = true ∧ ∀ l, fx.ro = some l → (∃ r, w.heap[l]? = some (.loop r)) ∧ γ.own l = none
theorem FxOk.grow {fx : Fx} {γ γ' : Gh} {ds ds' : List Deferred} {w w' : World} (h : FxOk fx γ ds w) (g : Grow γ w γ' w') (hd : ds' = fx.ds) : FxOk fx γ' ds' w' :=
 ⟨hd, h.2.1, fun l hl => by
  obtain ⟨⟨r, h1⟩, h2⟩ := h.2.2 l hl
  obtain ⟨g1, g2, _⟩ := g.free l (Array.getElem?_eq_some_iff.1 h1).1 h2
  exact ⟨⟨r, g1.trans h1⟩, g2⟩⟩
theorem FxOk.step {fx : Fx} {γ γ' : Gh} {ds ds' : List Deferred} {w w' : World} (h : FxOk fx γ ds w) (g : Grow γ w γ' w') : FxOk ⟨fx.ro, ds', fx.mx⟩ γ' ds' w' :=
 ⟨rfl, (h.grow g h.1).2⟩
theorem FxOk.free {ds : List Deferred} (γ : Gh) (w : World) : FxOk ⟨none, ds, true⟩ γ ds w := ⟨rfl, rfl, fun _ h => by simp at h⟩
def TV (P : Program) (G : Nat → Option (List V)) (c : Code) (st : St) (Q : Exit → St → Prop) : Prop :=
 ∀ (fx : Fx) (γ : Gh) (a : Act) (w : World), Sim G γ st a.tmps w → FxOk fx γ a.defers w → CW fx.ro P c (Lift G fx γ st w Q) a w
def thenV (next : St → Prop) (Q : Exit → St → Prop) : Exit → St → Prop
 | .normal, st => next st
 | e, st => Q e st
def inBlockV (id : Nat) (Q : Exit → St → Prop) : Exit → St → Prop
 | .exit id', st => if id' = id then Q .normal st else Q (.exit id') st
 | e, st => Q e st
section
variable {P : Program} {G : Nat → Option (List V)} {st : St} {Q : Exit → St → Prop}
theorem Lift.mono {fx : Fx} {γ : Gh} {w : World} {Q Q' : Exit → St → Prop} {e : Exit} {a : Act} {w' : World} (h : Lift G fx γ st w Q e a w') (hq : ∀ e st, Q e st → Q' e st) : Lift G fx γ st w Q' e a w' :=
 let ⟨st', γ', h1, h2, h3, h4⟩ := h; ⟨st', γ', h1, h2, h3, hq _ _ h4⟩
theorem Lift.grow {fx : Fx} {γ γ1 : Gh} {st1 : St} {w w1 : World} {e : Exit} {a : Act} {w' : World} (g : Grow γ w γ1 w1 ∧ Pin γ st.b st.u γ1 st1.b st1.u) (h : Lift G fx γ1 st1 w1 Q e a w') : Lift G fx γ st w Q e a w' :=
 let ⟨st', γ', h1, h2, h3, h4⟩ := h; ⟨st', γ', h1, ⟨g.1.trans h2.1, g.2.trans h2.2⟩, h3.start g.1.size, h4⟩
theorem Lift.grow2 {fx : Fx} {ds1 : List Deferred} {γ γ1 : Gh} {st1 : St} {w w1 : World} {e : Exit} {a : Act} {w' : World} (g : Grow γ w γ1 w1 ∧ Pin γ st.b st.u γ1 st1.b st1.u) (hm : Marks fx.mx w γ1 w1 fx.ds ds1) (h : Lift G ⟨fx.ro, ds1, fx.mx⟩ γ1 st1 w1 Q e a w') : Lift G fx γ st w Q e a w' :=
 let ⟨st', γ', h1, h2, h3, h4⟩ := h; ⟨st', γ', h1, ⟨g.1.trans h2.1, g.2.trans h2.2⟩, hm.trans h2.1 h3 g.1.size, h4⟩
theorem TV.mono {c : Code} {Q' : Exit → St → Prop} (h : TV P G c st Q) (hq : ∀ e st, Q e st → Q' e st) : TV P G c st Q' :=
 fun fx γ a w hs hd => wpIn_mono (h fx γ a w hs hd) fun _ _ _ hl => hl.mono hq
theorem TV.skip (h : Q .normal st) : TV P G .skip st Q := fun _ γ _ w hs hd => wpIn_skip ⟨st, γ, hs, ⟨.refl γ w, .refl hs.u⟩, .of hd.1, h⟩
theorem TV.seq {x y : Code} (h : TV P G x st (thenV (fun st => TV P G y st Q) Q)) : TV P G (.seq x y) st Q := fun fx γ a w hs hd => by
 refine wpIn_seq (wpIn_mono (h fx γ a w hs hd) fun e a' w' hl => ?_)
 obtain ⟨st', γ', h1, h2, h3, h4⟩ := hl
 cases e with
 | normal => exact wpIn_mono (h4 ⟨fx.ro, a'.defers, fx.mx⟩ γ' a' w' h1 (hd.step h2.1)) fun _ _ _ hl => hl.grow2 h2 h3
 | _ => exact ⟨st', γ', h1, h2, h3, h4⟩
theorem TV.cond {c : Operand} {x y : Code} {t : Bool} (hc : st.ev G c = some (.bool t)) (h : TV P G (if t then x else y) st Q) : TV P G (.cond c x y) st Q := fun fx γ a w hs hd =>
 wpIn_cond ((hs.ev hc).bool_inv) (h fx γ a w hs hd)
theorem TV.block {id : Nat} {c : Code} (h : TV P G c st (inBlockV id Q)) : TV P G (.block id c) st Q := fun fx γ a w hs hd => by
 refine wpIn_block (wpIn_mono (h fx γ a w hs hd) fun e a' w' hl => ?_)
 obtain ⟨st', γ', h1, h2, h3, h4⟩ := hl
 cases e with
 | exit id' =>
  simp only [inBlockV] at h4
  simp only [Exit.inBlock]
  split
  ·rename_i he; rw [if_pos he] at h4; exact ⟨st', γ', h1, h2, h3, h4⟩
  ·rename_i he; rw [if_neg he] at h4; exact ⟨st', γ', h1, h2, h3, h4⟩
 | _ => exact ⟨st', γ', h1, h2, h3, h4⟩
theorem TV.scope {c : Code} (h : TV P G c st Q) (hq : ∀ l st, ¬ Q (.goto l) st) : TV P G (.scope c) st Q := fun fx γ a w hs hd => by
 refine cw_scope_straight (wpIn_mono (h fx γ a w hs hd) fun e a' w' hl => ?_)
 cases e with
 | goto l => obtain ⟨st', _, _, _, _, h4⟩ := hl; exact absurd h4 (hq l st')
 | _ => exact hl
end
theorem TV.loop {P : Program} {G : Nat → Option (List V)} {Q : Exit → St → Prop} {c : Code} (I : Nat → St → Prop)
  (round : ∀ n st, I n st → TV P G c st (thenV (fun st' => ∃ m, m < n ∧ I m st') Q)) {n : Nat} {st : St} (h : I n st) : TV P G (.loop c) st Q := fun fx γ a w hs hd => by
 refine cw_loopN (fun n a' w' => ∃ st' γ', I n st' ∧ Sim G γ' st' a'.tmps w' ∧ (Grow γ w γ' w' ∧ Pin γ st.b st.u γ' st'.b st'.u) ∧ Marks fx.mx w γ' w' fx.ds a'.defers) (fun n a' w' hI => ?_) n a w ⟨st, γ, h, hs, ⟨.refl γ w, .refl hs.u⟩, .of hd.1⟩
 obtain ⟨st', γ', h1, h2, h3, h4⟩ := hI
 refine wpIn_mono (round n st' h1 ⟨fx.ro, a'.defers, fx.mx⟩ γ' a' w' h2 (hd.step h3.1)) fun e a2 w2 hl => ?_
 obtain ⟨st2, γ2, k1, k2, k3, k4⟩ := hl
 cases e with
 | normal => obtain ⟨m, hm, hI⟩ := k4; exact ⟨m, hm, st2, γ2, hI, k1, ⟨h3.1.trans k2.1, h3.2.trans k2.2⟩, h4.trans k2.1 k3 h3.1.size⟩
 | _ => exact ⟨st2, γ2, k1, ⟨h3.1.trans k2.1, h3.2.trans k2.2⟩, h4.trans k2.1 k3 h3.1.size, k4⟩
def guardV (ops : Array Oper) (st : St) (o : Oper) : Option Bool :=
 match o.guard with
 | none => some true
 | some (j, want) => match (ops[j]?).bind (·.dst) with
  | some d => if d < st.n then (match st.t d with | .bool b => some (b == want) | .tup [] => some false | _ => none) else none
  | none => none
theorem guardV_spec {G : Nat → Option (List V)} {γ : Gh} {st : St} {a : Act} {w : World} (hs : Sim G γ st a.tmps w) {ops : Array Oper} {o : Oper} {r : Bool} (h : guardV ops st o = some r) :
  Region.wanted o (yielded ops a.tmps) = r := by
 unfold guardV at h
 unfold Region.wanted
 split at h
 ·rename_i hg; rw [hg]; simpa using h
 ·rename_i j want hg
  rw [hg]
  split at h
  ·rename_i d hj
   split at h
   ·rename_i hd
    split at h
    ·rename_i b hb
     simp only [Option.some.injEq] at h; subst h
     have := hs.t d
     rw [hb] at this
     have hv := this.bool_inv
     have hsz : d < a.tmps.size := by rw [hs.n]; exact hd
     have hget : a.tmps[d]? = some (.bool b) := by
      rw [Array.getElem?_eq_getElem hsz]
      simp only [Array.getD, hsz, dif_pos] at hv
      simpa using hv
     simp only [yielded, hj, Option.bind_some, hget]
     cases b <;> cases want <;> rfl
    ·rename_i hb
     simp only [Option.some.injEq] at h; subst h
     have := hs.t d
     rw [hb] at this
     obtain ⟨vs, hv, hl, _⟩ := this.tup_inv
     have hv0 : vs = [] := List.length_eq_zero_iff.1 hl
     subst hv0
     have hsz : d < a.tmps.size := by rw [hs.n]; exact hd
     have hget : a.tmps[d]? = some (.tuple #[]) := by
      rw [Array.getElem?_eq_getElem hsz]
      simp only [Array.getD, hsz, dif_pos] at hv
      simpa using hv
     simp only [yielded, hj, Option.bind_some, hget]
     cases want <;> rfl
    ·simp at h
   ·simp at h
  ·simp at h
def StepV (P : Program) (G : Nat → Option (List V)) (ops : Array Oper) (i : Nat) (st st' : St) : Prop :=
 match ops[i]? with
 | none => st' = st
 | some o => (guardV ops st o = some true ∧ EffO P G o st st') ∨ (guardV ops st o = some false ∧ dstOk st.n o.dst = true ∧ st' = st.put o.dst (.tup []))
def TVops (P : Program) (G : Nat → Option (List V)) (ops : Array Oper) (l : List Nat) (st : St) (Q : Exit → St → Prop) : Prop :=
 ∀ (fx : Fx) (γ : Gh) (a : Act) (w : World), Sim G γ st a.tmps w → FxOk fx γ a.defers w → wpOpsIn (RF fx.ro) 0 P ops (Lift G fx γ st w Q) l a w
section
variable {P : Program} {G : Nat → Option (List V)} {ops : Array Oper} {st : St} {Q : Exit → St → Prop}
theorem TVops.nil (h : Q .normal st) : TVops P G ops [] st Q := fun _ γ _ w hs hd => ⟨st, γ, hs, ⟨.refl γ w, .refl hs.u⟩, .of hd.1, h⟩
theorem TVops.cons {i : Nat} {rest : List Nat} {st' : St} (h : StepV P G ops i st st') (hr : TVops P G ops rest st' Q) : TVops P G ops (i :: rest) st Q := fun fx γ a w hs hd => by
 unfold StepV at h
 simp only [wpOpsIn]
 split at h
 ·rename_i hi; subst h; rw [hi]; exact hr fx γ a w hs hd
 ·rename_i o hi
  rw [hi]
  simp only
  rcases h with ⟨hg, he⟩ | ⟨hg, hdst, rfl⟩
  ·rw [if_pos (guardV_spec hs hg)]
   refine op_in (he ⟨none, a.defers, false⟩ γ a w hs rfl _ _ fun a' w' γ' h1 h2 hp h3 => h3) (he fx γ a w hs hd.1 _ _ fun a' w' γ' h1 h2 hp h3 => ?_)
   exact wpOpsIn_mono (fun e a2 w2 hl => hl.grow ⟨h2, hp⟩) rest a' w' (hr fx γ' a' w' h1 (hd.grow h2 h3))
  ·rw [if_neg (by rw [guardV_spec hs hg]; simp)]
   exact ⟨fun _ _ => trivial, wpOpsIn_mono (fun e a2 w2 hl => hl.grow (st := st) ⟨.refl γ w, by cases o.dst <;> exact Pin.refl hs.u⟩) rest _ w (hr fx γ _ w (hs.put hdst (v := undef) (.tup [] [] rfl (fun i c v hc => by simp at hc))) (by rw [put_defers]; exact hd))⟩
theorem TV.region {id : Nat} (h : TVops P G ops (List.range ops.size) st Q) : TV P G (.region id ops false) st Q := fun fx γ a w hs hd => wpIn_region (h fx γ a w hs hd)
end
def stepE (P : Program) (G : Nat → Option (List V)) (o : Oper) (st : St) : Option St :=
 match o.op, o.dst with
 | .alloc e, some d => if d < st.n ∧ st.u d = false then (zeroV P e).map fun cs => (st.setB d ⟨cs.length, true, [cs]⟩).setT d (.ptr d 0 0) else none
 | .box _ x, some d => if d < st.n ∧ st.u d = false then ((st.ev G x).bind boxV).map fun cs => (st.setB d ⟨cs.length, true, [cs]⟩).setT d (.ptr d 0 0) else none
 | .store t x y, none => match st.ev G x, st.ev G y with
  | some (.ptr b i off), some c => match st.b b with
   | some k => (storeBlkV P t k i off c).map (st.setB b)
   | none => none
  | _, _ => none
 | .buildSlice t n ps, some d => if d < st.n ∧ st.u d = false then ((evParts (st.ev G) ps.toList).bind (buildSliceV P t n)).map fun k => (st.setB d k).setT d (.ref d 0 n) else none
 | op, dst => if dstOk st.n dst then (readV P (st.ev G) st.b op).map (st.put dst) else none
theorem stepE_spec {P : Program} {G : Nat → Option (List V)} {o : Oper} {st st' : St} (h : stepE P G o st = some st') : EffO P G o st st' := by
 unfold stepE at h
 split at h
 ·rename_i e d ho hd
  split at h
  ·rename_i hc
   obtain ⟨cs, hz, rfl⟩ := Option.map_eq_some_iff.1 h
   exact effO_alloc ho hd hc.1 hc.2 hz
  ·simp at h
 ·rename_i e x d ho hd
  split at h
  ·rename_i hc
   obtain ⟨cs, hz, rfl⟩ := Option.map_eq_some_iff.1 h
   obtain ⟨c, h1, h2⟩ := Option.bind_eq_some_iff.1 hz
   exact effO_box ho hd hc.1 hc.2 h1 h2
  ·simp at h
 ·rename_i t x y ho hd
  split at h
  ·rename_i b i off c hx hy
   split at h
   ·rename_i k hk
    obtain ⟨k', hs, rfl⟩ := Option.map_eq_some_iff.1 h
    exact effO_store ho hd hx hy hk hs
   ·simp at h
  ·simp at h
 ·rename_i t n ps d ho hd
  split at h
  ·rename_i hc
   obtain ⟨k, hz, rfl⟩ := Option.map_eq_some_iff.1 h
   obtain ⟨parts, h1, h2⟩ := Option.bind_eq_some_iff.1 hz
   exact effO_buildSlice ho hd hc.1 hc.2 h1 h2
  ·simp at h
 ·rename_i op dst
  split at h
  ·rename_i hd
   obtain ⟨c, hr, rfl⟩ := Option.map_eq_some_iff.1 h
   exact effO_read hr hd
  ·simp at h
def stepG (P : Program) (G : Nat → Option (List V)) (ops : Array Oper) (i : Nat) (st : St) : Option St :=
 match ops[i]? with
 | none => some st
 | some o => match guardV ops st o with
  | some true => stepE P G o st
  | some false => if dstOk st.n o.dst then some (st.put o.dst (.tup [])) else none
  | none => none
theorem stepG_spec {P : Program} {G : Nat → Option (List V)} {ops : Array Oper} {i : Nat} {st st' : St} (h : stepG P G ops i st = some st') : StepV P G ops i st st' := by
 unfold stepG at h
 unfold StepV
 split at h
 ·simp only [Option.some.injEq] at h; exact h.symm
 ·rename_i o hi
  split at h
  ·rename_i hg; exact .inl ⟨hg, stepE_spec h⟩
  ·rename_i hg
   split at h <;> simp at h
   rename_i hd
   exact .inr ⟨hg, hd, h.symm⟩
  ·simp at h
end Go.EV
namespace Go.EV
open Go
def uTop : Nat → Bool := fun b => decide (1000000 ≤ b)
theorem uPin_top {b : Nat} (h : uPin b = true) : uTop b = true := by unfold uTop; exact decide_eq_true (uPin_le h)
def CallC (P : Program) (G : Nat → Option (List V)) (f : FuncId) (args : List V) (ins : Nat → Option Blk) (res : V) (outs : Nat → Option Blk) : Prop :=
 ∀ (γ : Gh) (w : World) (as : Array Value), GlobOk G γ w → (∀ B x, γ.own B = some x → B < w.heap.size) → CellsR γ w ins uTop args as →
  (∀ b k, ins b = some k → uTop b = true ∧ BlkOk γ w ins uTop b k) →
  Calls P f as w fun e w' => ∃ v γ', e = .returned v ∧ Grow γ w γ' w' ∧ Pin γ ins uTop γ' outs (fun _ => true) ∧ Rep γ' w' outs (fun _ => true) res v ∧
   (∀ b k, outs b = some k → BlkOk γ' w' outs (fun _ => true) b k) ∧ (∀ B x, γ'.own B = some x → B < w'.heap.size)
def noB : Nat → Option Blk := fun _ => none
def PureC (P : Program) (G : Nat → Option (List V)) (f : FuncId) (args : List V) (res : V) : Prop := CallC P G f args noB res noB
def entry (n : Nat) (args : List V) (ins : Nat → Option Blk) : St := { n, t := fun i => args.getD i .undef, b := ins, u := uTop }
def resV (P : Program) (st : St) : ResultVar → Option V
 | .tmp t => some (st.t t)
 | .cell a t => loadV P st.b t (st.t a)
def resultsV (P : Program) (st : St) (rs : List ResultVar) : Option V :=
 match rs.mapM (resV P st) with
 | some [c] => some c
 | some cs => some (.tup cs)
 | none => none
def resRun (tmps : Array Value) : ResultVar → Sem Value
 | .tmp t => pure (tmps.getD t undef)
 | .cell a t => do loadVar t (← asAddr (tmps.getD a undef))
theorem results_eq (fn : Func) (tmps : Array Value) : results fn tmps = (do let vs ← fn.results.mapM (resRun tmps); pure (if h : vs.size = 1 then vs[0] else .tuple vs)) := by
 rfl
theorem run_resV {P : Program} {G : Nat → Option (List V)} {γ : Gh} {st : St} {tmps : Array Value} {w : World} (hs : Sim G γ st tmps w) {r : ResultVar} {c : V} (h : resV P st r = some c) :
  ∃ v, (resRun tmps r).run P w = .ok v w ∧ Rep γ w st.b st.u c v := by
 cases r with
 | tmp t => simp only [resV, Option.some.injEq] at h; subst h; exact ⟨_, rfl, hs.t t⟩
 | cell a t =>
  simp only [resV, loadV] at h
  obtain ⟨cells, h1, h2⟩ := Option.bind_eq_some_iff.1 h
  obtain ⟨B, o, hv, hc⟩ := hs.cellsV h1 (hs.t a)
  obtain ⟨x, hx, hd⟩ := run_loadCellsV (P := P) h2 hc
  refine ⟨x, ?_, hd⟩
  show (do loadVar t (← asAddr (tmps.getD a undef)) : Sem Value).run P w = _
  rw [hv]
  simp only [asAddr, Sem.run_bind, Sem.run_pure, Result.andThen_ok, hx]
theorem run_resList {P : Program} {G : Nat → Option (List V)} {γ : Gh} {st : St} {tmps : Array Value} {w : World} (hs : Sim G γ st tmps w) : ∀ {rs : List ResultVar} {cs : List V}, rs.mapM (resV P st) = some cs →
  ∃ vs : List Value, (rs.mapM (resRun tmps)).run P w = .ok vs w ∧ CellsR γ w st.b st.u cs vs.toArray
 | [], cs, h => by simp at h; subst h; exact ⟨[], rfl, rfl, fun i c v hc => by simp at hc⟩
 | r :: rs, cs, h => by
  simp only [List.mapM_cons, Option.bind_eq_bind, Option.bind_eq_some_iff, Option.pure_def, Option.some.injEq] at h
  obtain ⟨c, h1, cs', h2, rfl⟩ := h
  obtain ⟨v, hv, hr⟩ := run_resV hs h1
  obtain ⟨vs, hvs, hl, hp⟩ := run_resList hs h2
  refine ⟨v :: vs, ?_, ?_, ?_⟩
  ·rw [List.mapM_cons, Sem.run_bind, hv, Result.andThen_ok, Sem.run_bind, hvs, Result.andThen_ok]; rfl
  ·simp at hl ⊢; exact hl
  ·intro i d x hd hx
   cases i with
   | zero => simp at hd hx; subst hd; subst hx; exact hr
   | succ i => exact hp i d x (by simpa using hd) (by simpa using hx)
theorem run_resultsV {P : Program} {G : Nat → Option (List V)} {γ : Gh} {st : St} {tmps : Array Value} {w : World} (hs : Sim G γ st tmps w) {fn : Func} {c : V} (h : resultsV P st fn.results.toList = some c) :
  ∃ v, (results fn tmps).run P w = .ok v w ∧ Rep γ w st.b st.u c v := by
 unfold resultsV at h
 cases hm : fn.results.toList.mapM (resV P st) with
 | none => simp [hm] at h
 | some cs =>
  obtain ⟨vs, hvs, hl, hp⟩ := run_resList hs hm
  have hrun : (fn.results.mapM (resRun tmps)).run P w = .ok vs.toArray w := by
   rw [Array.mapM_eq_mapM_toList, Sem.run_map, hvs, Result.andThen_ok]
  have hres : (results fn tmps).run P w = .ok (if h : vs.toArray.size = 1 then vs.toArray[0] else .tuple vs.toArray) w := by
   rw [results_eq, Sem.run_bind, hrun, Result.andThen_ok]; rfl
  rw [hm] at h
  have hlen : vs.length = cs.length := by simpa using hl
  rcases cs with _ | ⟨c1, _ | ⟨c2, cs'⟩⟩
  ·obtain rfl : vs = [] := List.length_eq_zero_iff.1 hlen
   obtain rfl : V.tup [] = c := Option.some.inj h
   exact ⟨.tuple #[], by rw [hres]; rfl, .tup [] [] rfl (fun i c v hc => by simp at hc)⟩
  ·rcases vs with _ | ⟨v1, _ | ⟨v2, vs'⟩⟩
   ·simp at hlen
   ·obtain rfl : c1 = c := Option.some.inj h
    exact ⟨v1, by rw [hres]; rfl, hp 0 _ _ rfl rfl⟩
   ·simp at hlen
  ·rcases vs with _ | ⟨v1, _ | ⟨v2, vs'⟩⟩
   ·simp at hlen
   ·simp at hlen
   ·obtain rfl : V.tup (c1 :: c2 :: cs') = c := Option.some.inj h
    exact ⟨.tuple (v1 :: v2 :: vs').toArray, by rw [hres]; simp, .tup _ _ hlen fun i c v hc hv => hp i c v hc (by simpa using hv)⟩
def Done (P : Program) (rs : List ResultVar) (res : V) (outs : Nat → Option Blk) (e : Exit) (st : St) : Prop :=
 (e = .normal ∨ e = .ret) ∧ resultsV P st rs = some res ∧ ∀ b k, outs b = some k → st.b b = some k
mutual
def dataB : V → Bool
 | .int _ _ => true | .bool _ => true | .str _ => true | .nilp => true | .nilf => true | .nilsl => true | .yld _ => true
 | .sl _ _ _ => true | .snap _ => true
 | .fn _ a b => dataL a && dataL b
 | .agg l => dataL l
 | .tup l => dataL l
 | .ref _ _ _ => false | .ptr _ _ _ => false | .undef => false | .mp _ => false
def dataL : List V → Bool
 | [] => true
 | c :: l => dataB c && dataL l
end
mutual
def flatB : V → Bool
 | .int _ _ => true | .bool _ => true | .str _ => true | .nilp => true | .nilf => true | .nilsl => true | .yld _ => true
 | .agg l => flatL l
 | .tup l => flatL l
 | .fn _ a b => flatL a && flatL b
 | .sl _ _ _ => false | .snap _ => false | .ref _ _ _ => false | .ptr _ _ _ => false | .undef => false | .mp _ => false
def flatL : List V → Bool
 | [] => true
 | c :: l => flatB c && flatL l
end
theorem flatL_get : ∀ {l : List V}, flatL l = true → ∀ {i : Nat} {c : V}, l[i]? = some c → flatB c = true
 | [], _, i, c, h => by simp at h
 | x :: l, hl, i, c, h => by
  simp only [flatL, Bool.and_eq_true] at hl
  cases i with
  | zero => simp at h; subst h; exact hl.1
  | succ i => exact flatL_get hl.2 (by simpa using h)
theorem RepD.flat {lim lim' : Nat → Nat} {w w' : World} {c : V} {v : Value} (h : RepD lim w c v) : flatB c = true → RepD lim' w' c v := by
 induction h with
 | int k n => exact fun _ => .int k n
 | bool b => exact fun _ => .bool b
 | str s => exact fun _ => .str s
 | nilp => exact fun _ => .nilp
 | nilf => exact fun _ => .nilf
 | yld l => exact fun _ => .yld l
 | nilsl => exact fun _ => .nilsl
 | sl => intro h; simp [flatB] at h
 | slNil => intro h; simp [flatB] at h
 | snap => intro h; simp [flatB] at h
 | fn f first captured fs cs h1 h2 _ _ ih1 ih2 =>
  intro h
  simp only [flatB, Bool.and_eq_true] at h
  exact .fn f first captured fs cs h1 h2 (fun i c v hc hv => ih1 i c v hc hv (flatL_get h.1 hc)) (fun i c v hc hv => ih2 i c v hc hv (flatL_get h.2 hc))
theorem Rep.flat {γ γ' : Gh} {w w' : World} {bs bs' : Nat → Option Blk} {u u' : Nat → Bool} {c : V} {v : Value} (h : Rep γ w bs u c v) : flatB c = true → Rep γ' w' bs' u' c v := by
 induction h with
 | data h => exact fun hf => .data (h.flat hf)
 | undef => intro h; simp [flatB] at h
 | ref => intro h; simp [flatB] at h
 | refE => intro h; simp [flatB] at h
 | refN => intro h; simp [flatB] at h
 | deadRef => intro h; simp [flatB] at h
 | ptr => intro h; simp [flatB] at h
 | deadPtr => intro h; simp [flatB] at h
 | mp => intro h; simp [flatB] at h
 | deadMp => intro h; simp [flatB] at h
 | fn f first captured fs cs h1 h2 _ _ ih1 ih2 =>
  intro h
  simp only [flatB, Bool.and_eq_true] at h
  exact .fn f first captured fs cs h1 h2 (fun i c v hc hv => ih1 i c v hc hv (flatL_get h.1 hc)) (fun i c v hc hv => ih2 i c v hc hv (flatL_get h.2 hc))
 | agg cells vs h1 _ ih => intro h; exact .agg cells vs h1 fun i c v hc hv => ih i c v hc hv (flatL_get (by simpa [flatB] using h) hc)
 | tup cells vs h1 _ ih => intro h; exact .tup cells vs h1 fun i c v hc hv => ih i c v hc hv (flatL_get (by simpa [flatB] using h) hc)
theorem run_call {P : Program} {w : World} {a : Act} {o : Oper} {x : Operand} {xs : Array Operand} {ts : Array TypeId} {f : FuncId} {fn : Func} {fs cs : Array Value} (ho : o.op = .call { callee := .value x, args := xs, argTypes := ts })
  (hx : a.eval x = .func (.func f) fs cs) (hfn : P.funcs[f]? = some fn) (hname : (fn.name == "runtime.NumGoroutine") = false) (hbody : fn.body.isNone = false) :
  (execOp a.eval o).run P w = .ok (.enter f (fs ++ xs.map a.eval ++ cs)) w := by
 have e : execOp a.eval o = (do let d ← Deferred.ofValue (a.eval x) (xs.map a.eval); invoke d.target d.args) := by
  unfold execOp; rw [ho]; rfl
 rw [e, hx]
 have hname' : ¬ fn.name = "runtime.NumGoroutine" := by simpa using hname
 have hbody' : ¬ fn.body = none := by intro h; rw [h] at hbody; simp at hbody
 simp [Deferred.ofValue, invoke, callFunc, hfn, hname', hbody']
theorem CellsR.append {γ : Gh} {w : World} {bs : Nat → Option Blk} {u : Nat → Bool} {c1 c2 : List V} {v1 v2 : Array Value} (h1 : CellsR γ w bs u c1 v1) (h2 : CellsR γ w bs u c2 v2) : CellsR γ w bs u (c1 ++ c2) (v1 ++ v2) := by
 refine ⟨by simp [h1.1, h2.1], fun i c v hc hv => ?_⟩
 by_cases hi : i < c1.length
 ·rw [List.getElem?_append_left hi] at hc
  rw [Array.getElem?_append_left (by rw [h1.1]; exact hi)] at hv
  exact h1.2 i c v hc hv
 ·rw [List.getElem?_append_right (by omega)] at hc
  rw [Array.getElem?_append_right (by rw [h1.1]; omega), h1.1] at hv
  exact h2.2 _ c v hc hv
def callArgs (G : Nat → Option (List V)) (st : St) (x : Operand) (xs : List Operand) : Option (FuncId × List V) :=
 match st.ev G x, evs (st.ev G) xs with
 | some (.fn f first captured), some cs => some (f, first ++ cs ++ captured)
 | _, _ => none
theorem callArgs_spec {P : Program} {G : Nat → Option (List V)} {γ : Gh} {st : St} {a : Act} {w : World} (hs : Sim G γ st a.tmps w) {o : Oper} {x : Operand} {xs : Array Operand} {ts : Array TypeId} {f : FuncId} {cs : List V} {fn : Func}
  (ho : o.op = .call { callee := .value x, args := xs, argTypes := ts }) (h : callArgs G st x xs.toList = some (f, cs)) (hfn : P.funcs[f]? = some fn) (hname : (fn.name == "runtime.NumGoroutine") = false) (hbody : fn.body.isNone = false) :
  ∃ as : Array Value, (execOp a.eval o).run P w = .ok (.enter f as) w ∧ CellsR γ w st.b st.u cs as := by
 unfold callArgs at h
 split at h
 ·rename_i f' first captured cs' hx hcs
  simp only [Option.some.injEq, Prod.mk.injEq] at h
  obtain ⟨rfl, rfl⟩ := h
  obtain ⟨fs, caps, hv, l1, l2, p1, p2⟩ := (hs.ev hx).fn_inv
  have hm := evs_rep hs hcs
  have k : (xs.toList.map a.eval).toArray = xs.map a.eval := Array.ext' (by rw [Array.toList_map])
  rw [k] at hm
  refine ⟨_, run_call ho hv hfn hname hbody, ?_⟩
  exact (CellsR.append (CellsR.append ⟨by simpa using l1, fun i c v hc hx => p1 i c v hc (by simpa using hx)⟩ hm) ⟨by simpa using l2, fun i c v hc hx => p2 i c v hc (by simpa using hx)⟩)
 ·simp at h
end Go.EV
namespace Go.EV
open Go
structure Src where
 b : Option Nat
 off : Nat
 size : Nat
 excl : Bool
 rows : List (List V)
def St.delO (st : St) (b : Option Nat) : St := match b with | some i => st.delB i | none => st
theorem delO_b (st : St) (x : Option Nat) (b : Nat) : (st.delO x).b b = if x = some b then none else st.b b := by
 cases x with
 | none => simp [St.delO]
 | some i =>
  simp only [St.delO, St.delB, Option.some.injEq]
  by_cases h : b = i
  ·rw [if_pos h, if_pos h.symm]
  ·rw [if_neg h, if_neg (fun e => h e.symm)]
def dstV (look : Nat → Option Blk) (size : Nat) (c : V) : Option Src :=
 match c with
 | .nilsl => some ⟨none, 0, size, true, []⟩
 | .ref b off len => match look b with
  | some k => if k.size = size ∧ off + len ≤ k.rows.length ∧ (k.excl = true ∨ off + len = k.rows.length) then some ⟨some b, off, size, k.excl, (k.rows.drop off).take len⟩ else none
  | none => none
 | _ => none
def srcV (look : Nat → Option Blk) (size : Nat) (dst : Option Nat) (c : V) : Option Src :=
 match c with
 | .nilsl => some ⟨none, 0, size, true, []⟩
 | .sl _ s rows => if s = size then some ⟨none, 0, size, true, rows.map (·.map V.strip)⟩ else none
 | .ref b off len => match look b with
  | some k => if k.size = size ∧ off + len ≤ k.rows.length then
    (if dst = some b then some ⟨none, 0, size, true, ((k.rows.drop off).take len).map (·.map V.strip)⟩ else some ⟨some b, off, size, true, (k.rows.drop off).take len⟩) else none
  | none => none
 | _ => none
def appendV (P : Program) (look : Nat → Option Blk) (t t2 : TypeId) (x y : V) : Option (Src × Src × Blk) :=
 match P.underlying t, P.underlying t2 with
 | some (.slice e), some (.slice _) => match P.info? e with
  | some ei => match dstV look ei.size x with
   | some ds => match srcV look ei.size ds.b y with
    | some ss => if (ds.rows.length + ss.rows.length) * ei.bytes ≤ 140737488355328 ∧ 0 < ei.bytes ∧ (zeroV P e).map List.length = some ei.size then some (ds, ss, ⟨ei.size, ds.excl, ds.rows ++ ss.rows⟩) else none
    | none => none
   | none => none
  | none => none
 | _, _ => none
def moveOwn (ds ss : Src) (d : Nat) (x : Option Owner) : Option Owner :=
 match x with
 | some (.nest b i j) =>
  if ds.b = some b then (if ds.off ≤ i ∧ i < ds.off + ds.rows.length then some (.nest d (i - ds.off) j) else none)
  else if ss.b = some b then (if ss.off ≤ i ∧ i < ss.off + ss.rows.length then some (.nest d (ds.rows.length + (i - ss.off)) j) else none)
  else some (.nest b i j)
 | x => x
def Gh.move (γ : Gh) (ds ss : Src) (d B o : Nat) (lim : Nat) : Gh where
 loc := fun b => if b = d then some (B, o) else γ.loc b
 own := fun X => if X = B then some (.blk d) else moveOwn ds ss d (γ.own X)
 lim := fun X => if X = B then lim else γ.lim X
theorem moveOwn_other {ds ss : Src} {d b i j : Nat} (h1 : ds.b ≠ some b) (h2 : ss.b ≠ some b) : moveOwn ds ss d (some (.nest b i j)) = some (.nest b i j) := by
 simp only [moveOwn, if_neg h1, if_neg h2]
def RowsRd (γ : Gh) (w : World) (bs : Nat → Option Blk) (u : Nat → Bool) (s : Src) (vs : List Value) : Prop :=
 (∀ r, r ∈ s.rows → r.length = s.size) ∧ vs.length = s.rows.length * s.size ∧
  ∀ (i : Nat) (c : V), s.rows.flatten[i]? = some c → ∃ v, vs[i]? = some v ∧ Rep γ w bs u c v ∧ v.oneCell' = true ∧
   (match s.b with | some b => Right γ w (.nest b (s.off + i / s.size) (i % s.size)) c v | none => c.isOwn = false)
theorem flatten_cut {s : Nat} (rows : List (List V)) (hs : ∀ r, r ∈ rows → r.length = s) (off len i : Nat) (c : V) (h : ((rows.drop off).take len).flatten[i]? = some c) :
  rows.flatten[off * s + i]? = some c ∧ i < len * s := by
 have hs' : ∀ r, r ∈ (rows.drop off).take len → r.length = s := fun r hr => hs r (List.mem_of_mem_drop (List.mem_of_mem_take hr))
 rcases Nat.eq_zero_or_pos s with h0 | hpos
 ·subst h0
  have e : ((rows.drop off).take len).flatten = [] := by
   rw [List.flatten_eq_nil_iff]; exact fun r hr => List.length_eq_zero_iff.1 (hs' r hr)
  rw [e] at h; simp at h
 ·have e : i = (i / s) * s + i % s := by rw [Nat.mul_comm]; exact (Nat.div_add_mod i s).symm
  have hm := Nat.mod_lt i hpos
  rw [e, flatten_get _ hs' _ _ hm] at h
  obtain ⟨r, hr, hc⟩ := Option.bind_eq_some_iff.1 h
  rw [List.getElem?_take] at hr
  split at hr
  ·rename_i hlt
   rw [List.getElem?_drop] at hr
   refine ⟨?_, ?_⟩
   ·rw [e, show off * s + (i / s * s + i % s) = (off + i / s) * s + i % s by rw [Nat.add_mul]; omega, flatten_get _ hs _ _ hm, hr]; exact hc
   ·have : (i / s + 1) * s ≤ len * s := Nat.mul_le_mul_right _ hlt
    rw [Nat.add_mul] at this; omega
  ·simp at hr
theorem BlkAt.rd {γ : Gh} {w : World} {bs : Nat → Option Blk} {u : Nat → Bool} {b : Nat} {k : Blk} {o : Nat} {cs : Array Value} {off len : Nat} (excl : Bool)
  (h4 : ∀ r, r ∈ k.rows → r.length = k.size) (h5 : o + k.rows.length * k.size ≤ cs.size)
  (h6 : ∀ (i : Nat) (c : V), k.rows.flatten[i]? = some c → ∃ v, cs[o + i]? = some v ∧ Rep γ w bs u c v ∧ v.oneCell' = true ∧ Right γ w (.nest b (i / k.size) (i % k.size)) c v)
  (hlen : off + len ≤ k.rows.length) :
  RowsRd γ w bs u ⟨some b, off, k.size, excl, (k.rows.drop off).take len⟩ ((cs.toList.drop (o + off * k.size)).take (len * k.size)) := by
 have hl : ((k.rows.drop off).take len).length = len := by simp; omega
 refine ⟨fun r hr => h4 r (List.mem_of_mem_drop (List.mem_of_mem_take hr)), ?_, fun i c hc => ?_⟩
 ·simp only [List.length_take, List.length_drop, hl, Array.length_toList]
  have : (off + len) * k.size ≤ k.rows.length * k.size := Nat.mul_le_mul_right _ hlen
  rw [Nat.add_mul] at this; omega
 ·obtain ⟨hc', hi⟩ := flatten_cut k.rows h4 off len i c hc
  obtain ⟨v, a1, a2, a3, a4⟩ := h6 _ c hc'
  refine ⟨v, ?_, a2, a3, ?_⟩
  ·rw [List.getElem?_take, if_pos hi, List.getElem?_drop, show o + off * k.size + i = o + (off * k.size + i) by omega]
   simpa using a1
  ·show Right γ w (.nest b (off + i / k.size) (i % k.size)) c v
   rcases Nat.eq_zero_or_pos k.size with h0 | hpos
   ·rw [h0] at hi; omega
   ·rw [Nat.mul_comm off, Nat.mul_add_div hpos, Nat.mul_add_mod] at a4; exact a4
theorem Sim.appendTo {G : Nat → Option (List V)} {γ : Gh} {st : St} {tmps : Array Value} {w w1 : World} (h : Sim G γ st tmps w) {d : Nat} {ds ss : Src} {vd vsr : List Value} {B o lim : Nat} {cs : Array Value} {e : TypeId}
  (hM : ds.size < MAPS) (hu : st.u d = false) (hd : RowsRd γ w st.b st.u ds vd) (hss : RowsRd γ w st.b st.u ss vsr) (hsz : ds.size = ss.size) (hne : ∀ b, ds.b = some b → ss.b ≠ some b)
  (hw1 : w1.heap[B]? = some (.cells cs e (0, 0))) (hroom : o + (ds.rows.length + ss.rows.length) * ds.size ≤ cs.size)
  (hcells : ∀ j, j < vd.length + vsr.length → cs[o + j]? = (vd ++ vsr)[j]?)
  (g : Grow γ w (γ.move ds ss d B o lim) w1) (hkeep : ∀ b k X o', st.b b = some k → ds.b ≠ some b → ss.b ≠ some b → γ.loc b = some (X, o') → γ.own X = some (.blk b) → X ≠ B ∧ w1.heap[X]? = w.heap[X]?)
  (hB : B < w1.heap.size) (hold : ∀ X t, γ.own X = some t → X < w1.heap.size)
  (hlim : ds.excl = true → lim = 0) (hlim2 : lim ≤ o + (ds.rows.length + ss.rows.length) * ds.size)
  (hnest : ∀ X b i j, γ.own X = some (.nest b i j) → X ≠ B) :
  Sim G (γ.move ds ss d B o lim) (((st.delO ds.b).delO ss.b).setB d ⟨ds.size, ds.excl, ds.rows ++ ss.rows⟩) tmps w1 ∧
   BsLe γ st.b st.u (γ.move ds ss d B o lim) (((st.delO ds.b).delO ss.b).setB d ⟨ds.size, ds.excl, ds.rows ++ ss.rows⟩).b (((st.delO ds.b).delO ss.b).setB d ⟨ds.size, ds.excl, ds.rows ++ ss.rows⟩).u := by
 have hb2 : ∀ b, b ≠ d → (((st.delO ds.b).delO ss.b).setB d ⟨ds.size, ds.excl, ds.rows ++ ss.rows⟩).b b = if ds.b = some b ∨ ss.b = some b then none else st.b b := by
  intro b hb
  simp only [St.setB]
  rw [if_neg hb, delO_b, delO_b]
  by_cases h1 : ss.b = some b
  ·rw [if_pos h1, if_pos (.inr h1)]
  ·rw [if_neg h1]
   by_cases h2 : ds.b = some b
   ·rw [if_pos h2, if_pos (.inl h2)]
   ·rw [if_neg h2, if_neg (by simp [h1, h2])]
 have hu2 : ∀ b, st.u b = true → (((st.delO ds.b).delO ss.b).setB d ⟨ds.size, ds.excl, ds.rows ++ ss.rows⟩).u b = true := by
  intro b hb
  simp only [St.setB]
  split
  ·rfl
  ·cases ds.b <;> cases ss.b <;> simp only [St.delO, St.delB] <;> (try split) <;> (try split) <;> first | rfl | exact hb
 have bl : BsLe γ st.b st.u (γ.move ds ss d B o lim) (((st.delO ds.b).delO ss.b).setB d ⟨ds.size, ds.excl, ds.rows ++ ss.rows⟩).b (((st.delO ds.b).delO ss.b).setB d ⟨ds.size, ds.excl, ds.rows ++ ss.rows⟩).u := by
  refine ⟨hu2, fun b hb hn => ?_, fun b k hk => ⟨hu2 b (h.u b k hk), ?_⟩⟩
  ·have : b ≠ d := fun e => by subst e; rw [hu] at hb; simp at hb
   rw [hb2 b this]; split
   ·rfl
   ·exact hn
  ·have : b ≠ d := fun e => by subst e; rw [h.fresh_b hu] at hk; simp at hk
   rw [hb2 b this]
   split
   ·exact .inl rfl
   ·exact .inr ⟨k, hk, rfl, fun _ => rfl, by simp only [Gh.move]; rw [if_neg this]⟩
 refine ⟨⟨?_, fun i => ?_, fun b k hk => ?_, fun b k hk => ?_, h.g.grow g, fun X t hX => ?_⟩, bl⟩
 ·have : (((st.delO ds.b).delO ss.b).setB d ⟨ds.size, ds.excl, ds.rows ++ ss.rows⟩).n = st.n := by cases ds.b <;> cases ss.b <;> rfl
  rw [this]; exact h.n
 ·have : (((st.delO ds.b).delO ss.b).setB d ⟨ds.size, ds.excl, ds.rows ++ ss.rows⟩).t = st.t := by cases ds.b <;> cases ss.b <;> rfl
  rw [this]; exact (h.t i).mono g bl
 ·by_cases hbd : b = d
  ·subst hbd
   simp only [St.setB, if_pos] at hk
   simp only [Option.some.injEq] at hk; subst hk
   refine .inr (.inr ⟨hM, B, o, cs, e, by simp [Gh.move], by simp [Gh.move], hw1, fun r hr => ?_, by simpa using hroom, fun i c hc => ?_, fun hx => by simp [Gh.move, hlim hx], by simpa [Gh.move] using hlim2⟩)
   ·rcases List.mem_append.1 hr with hr | hr
    ·exact hd.1 r hr
    ·rw [hsz]; exact hss.1 r hr
   ·simp only [List.flatten_append] at hc
    have dl : ds.rows.flatten.length = ds.rows.length * ds.size := by
     rw [List.length_flatten]
     have : ds.rows.map List.length = List.replicate ds.rows.length ds.size := List.eq_replicate_iff.2 ⟨by simp, fun x hx => by obtain ⟨r, hr, rfl⟩ := List.mem_map.1 hx; exact hd.1 r hr⟩
     rw [this]; simp
    by_cases hi : i < ds.rows.flatten.length
    ·rw [List.getElem?_append_left hi] at hc
     obtain ⟨v, a1, a2, a3, a4⟩ := hd.2.2 i c hc
     refine ⟨v, ?_, a2.mono g bl, a3, ?_⟩
     ·rw [hcells i (by rw [hd.2.1]; omega), List.getElem?_append_left (by rw [hd.2.1]; omega)]; exact a1
     ·cases hdb : ds.b with
      | none => rw [hdb] at a4; exact .of_not_own a4
      | some b0 =>
       rw [hdb] at a4
       simp only at a4
       replace a4 := a4.grow g
       unfold Right at a4 ⊢
       split at a4
       ·rename_i size' rows' a l cp
        rcases a4 with a4 | a4
        ·exact .inl a4
        refine .inr ?_
        have hne' : a.block ≠ B := hnest _ _ _ _ a4.1.1
        have hpos : 0 < ds.size := by
         rcases Nat.eq_zero_or_pos ds.size with h0 | h0
         ·rw [dl, h0] at hi; omega
         ·exact h0
        have hq : i / ds.size < ds.rows.length := by rw [Nat.div_lt_iff_lt_mul hpos]; omega
        simp only [Gh.move]
        rw [if_neg hne', if_neg hne', a4.1.1]
        refine ⟨⟨?_, a4.1.2⟩, a4.2⟩
        simp only [moveOwn, hdb, if_true]
        generalize i / ds.size = q at hq
        rw [if_pos (by omega), show ds.off + q - ds.off = q by omega]
       ·trivial
    ·rw [List.getElem?_append_right (by omega)] at hc
     obtain ⟨v, a1, a2, a3, a4⟩ := hss.2.2 _ c hc
     have hsl : i - ds.rows.flatten.length < vsr.length := (List.getElem?_eq_some_iff.1 a1).1
     refine ⟨v, ?_, a2.mono g bl, a3, ?_⟩
     ·rw [hcells i (by rw [hd.2.1]; omega), List.getElem?_append_right (by rw [hd.2.1]; omega), hd.2.1, ← dl]; exact a1
     ·cases hsb : ss.b with
      | none => rw [hsb] at a4; exact .of_not_own a4
      | some b0 =>
       rw [hsb] at a4
       simp only at a4
       replace a4 := a4.grow g
       unfold Right at a4 ⊢
       split at a4
       ·rename_i size' rows' a l cp
        rcases a4 with a4 | a4
        ·exact .inl a4
        refine .inr ?_
        have hne' : a.block ≠ B := hnest _ _ _ _ a4.1.1
        have hpos : 0 < ss.size := by
         rcases Nat.eq_zero_or_pos ss.size with h0 | h0
         ·rw [hss.2.1, h0] at hsl; omega
         ·exact h0
        have hdsb : ds.b ≠ some b0 := fun hx => hne b0 hx hsb
        have hq : (i - ds.rows.length * ds.size) / ss.size < ss.rows.length := by rw [Nat.div_lt_iff_lt_mul hpos]; rw [dl, hss.2.1] at hsl; exact hsl
        simp only [Gh.move]
        rw [if_neg hne', if_neg hne', a4.1.1]
        refine ⟨⟨?_, a4.1.2⟩, a4.2⟩
        simp only [moveOwn, hsb, if_true]
        rw [if_neg hdsb, dl]
        have hin : ss.off ≤ ss.off + (i - ds.rows.length * ds.size) / ss.size ∧ ss.off + (i - ds.rows.length * ds.size) / ss.size < ss.off + ss.rows.length := ⟨Nat.le_add_right _ _, Nat.add_lt_add_left hq _⟩
        rw [if_pos hin, Nat.add_sub_cancel_left]
        have hge : ds.rows.length * ss.size ≤ i := by rw [← hsz]; omega
        have e1 : i / ds.size = ds.rows.length + (i - ds.rows.length * ds.size) / ss.size := by
         rw [hsz]
         conv => lhs; rw [show i = ss.size * ds.rows.length + (i - ds.rows.length * ss.size) by rw [Nat.mul_comm]; omega]
         rw [Nat.mul_add_div hpos]
        have e2 : i % ds.size = (i - ds.rows.length * ds.size) % ss.size := by
         rw [hsz]
         conv => lhs; rw [show i = ss.size * ds.rows.length + (i - ds.rows.length * ss.size) by rw [Nat.mul_comm]; omega]
         rw [Nat.mul_add_mod]
        rw [e1, e2]
       ·trivial
  ·rw [hb2 b hbd] at hk
   split at hk
   ·simp at hk
   ·rename_i hno
    simp only [not_or] at hno
    rcases h.b b k hk with ⟨v1, v2⟩ | hm | ⟨hM2, X, o', cs', e', a1, a2, a3, a4, a5, a6, a7, a8⟩
    ·exact .inl ⟨by simp only [Gh.move]; rw [if_neg hbd]; exact v1, v2⟩
    ·refine .inr (.inl (hm.same (by simp only [Gh.move]; rw [if_neg hbd]) (fun X q1 q2 => ?_) fun c v hr => hr.mono g bl))
     obtain ⟨hXB, hX⟩ := hkeep b k X 0 hk hno.1 hno.2 q1 q2
     exact ⟨by simp only [Gh.move]; rw [if_neg hXB, q2]; rfl, hX⟩
    ·obtain ⟨hXB, hX⟩ := hkeep b k X o' hk hno.1 hno.2 a1 a2
     refine .inr (.inr ⟨hM2, X, o', cs', e', by simp only [Gh.move]; rw [if_neg hbd]; exact a1, by simp only [Gh.move]; rw [if_neg hXB, a2]; rfl, by rw [hX]; exact a3, a4, a5, fun i c hc => ?_,
      by simp only [Gh.move]; rw [if_neg hXB]; exact a7, by simp only [Gh.move]; rw [if_neg hXB]; exact a8⟩)
     obtain ⟨v, b1, b2, b3, b4⟩ := a6 i c hc
     refine ⟨v, b1, b2.mono g bl, b3, (b4.grow g).mono fun Y hY => ?_⟩
     have hYB := hnest _ _ _ _ hY
     simp only [Gh.move]
     rw [if_neg hYB, if_neg hYB, hY]
     exact ⟨moveOwn_other hno.1 hno.2, Nat.le_refl _⟩
 ·by_cases hbd : b = d
  ·subst hbd; simp [St.setB]
  ·rw [hb2 b hbd] at hk
   split at hk
   ·simp at hk
   ·exact hu2 b (h.u b k hk)
 ·simp only [Gh.move] at hX
  split at hX
  ·rename_i hXB; rw [hXB]; exact hB
  ·cases ho : γ.own X with
   | none => rw [ho] at hX; simp [moveOwn] at hX
   | some t' => exact hold X t' ho
end Go.EV
namespace Go.EV
open Go
section
variable {P : Program}
theorem run_append_grow_any {w : World} (t t2 ty e e2 : TypeId) (i : TypeInfo) (z : Value) (ht : P.underlying t = some (.slice e)) (ht2 : P.underlying t2 = some (.slice e2)) (hi : P.info? e = some i) (hz : i.zero = some z)
  (base : Option Addr) (n cap m : Nat) (y : Value) (olds news : List Value) (hlen : ∀ w1, (Builtin.lenOf y).run P w1 = .ok m w1)
  (hold : ∀ w1 : World, w1.heap = w.heap → (Builtin.firstCells i.size n (.slice base n cap)).run P w1 = .ok olds.toArray w1)
  (hnew : ∀ w1 : World, w1.heap = w.heap → (Builtin.firstCells i.size m y).run P w1 = .ok news.toArray w1)
  (hg : cap < n + m) (h63 : ((n + m : Nat) : Int) ≤ 9223372036854775807) (hfit : Builtin.nextslicecap (n + m) cap * i.bytes ≤ 281474976710656) :
  (Builtin.append_ #[t, t2] ty #[.slice base n cap, y]).run P w =
   .ok (.slice (some ⟨w.heap.size, 0, none⟩) (n + m) (grownCap w (n + m) cap e)) (w.drew.alloc (.cells (olds.toArray ++ news.toArray ++ Builtin.zeroCells z.cells (grownCap w (n + m) cap e - (n + m))) e)) := by
 have hn : ¬ (n + m ≤ cap) := by omega
 have h63' : ¬ (9223372036854775807 < ((n : Int) + (m : Int))) := by omega
 have h48' : ¬ (281474976710656 < Builtin.nextslicecap (n + m) cap * i.bytes) := by omega
 have hf := hnew w.drew rfl
 have hfo := hold w.drew rfl
 simp [Builtin.append_, run_underlying ht, run_underlying ht2, sizeOf, typeInfo, zeroValue, hi, hz, hlen, hn, h63', h48', Question.forced, hf, hfo, newRow, grownCap]
 congr 2
 apply Array.ext'
 simp [List.append_assoc]
theorem run_append_in_any {w : World} (t t2 ty e e2 : TypeId) (i : TypeInfo) (ht : P.underlying t = some (.slice e)) (ht2 : P.underlying t2 = some (.slice e2)) (hi : P.info? e = some i)
  (B o n cap m : Nat) (y : Value) (news : List Value) (cs : Array Value) (ce : TypeId) (hlen : ∀ w1, (Builtin.lenOf y).run P w1 = .ok m w1)
  (hnew : ∀ w1 : World, w1.heap = w.heap → (Builtin.firstCells i.size m y).run P w1 = .ok news.toArray w1)
  (hg : n + m ≤ cap) (hh : w.heap[B]? = some (.cells cs ce (0, 0))) (h1 : ∀ v, v ∈ news → v.oneCell' = true) (hroom : o + n * i.size + news.length ≤ cs.size) :
  (Builtin.append_ #[t, t2] ty #[.slice (some ⟨B, o, none⟩) n cap, y]).run P w = .ok (.slice (some ⟨B, o, none⟩) (n + m) cap) (World.setBlk w B (setRange cs (o + n * i.size) news) ce) := by
 have hs := run_storeCells (P := P) (B := B) (o := o + n * i.size) (e := ce) news 0 w cs hh h1 (by omega)
 have hf := hnew w rfl
 simp [Builtin.append_, run_underlying ht, run_underlying ht2, sizeOf, typeInfo, hi, hlen, hg, hf, Addr.add_eq, hs]
theorem run_append_none {w : World} (t t2 ty e e2 : TypeId) (i : TypeInfo) (ht : P.underlying t = some (.slice e)) (ht2 : P.underlying t2 = some (.slice e2)) (hi : P.info? e = some i)
  (base : Option Addr) (y : Value) (cap : Nat) (hlen : ∀ w1, (Builtin.lenOf y).run P w1 = .ok 0 w1) (hnew : ∀ w1 : World, w1.heap = w.heap → (Builtin.firstCells i.size 0 y).run P w1 = .ok #[] w1) :
  (Builtin.append_ #[t, t2] ty #[.slice base 0 cap, y]).run P w = .ok (.slice base 0 cap) w := by
 have hf := hnew w rfl
 cases base <;> simp [Builtin.append_, run_underlying ht, run_underlying ht2, sizeOf, typeInfo, hi, hlen, hf, storeCells]
end
theorem firstCells_at {P : Program} {w : World} {B o n size l cap : Nat} {vs : List Value} (hl : vs.length = n * size) (hv : ∀ (j : Nat) (v : Value), vs[j]? = some v → cellAt w B (o + j) = some v) :
  ∀ w1 : World, w1.heap = w.heap → (Builtin.firstCells size n (.slice (some ⟨B, o, none⟩) l cap)).run P w1 = .ok vs.toArray w1 := fun w1 hh =>
 run_firstCells_some w1 size n ⟨B, o, none⟩ l cap vs hl fun j v h => by
  rw [Addr.add_eq]
  have := hv j v h
  unfold cellAt World.cell? at this
  unfold World.cell?
  rw [hh]; exact this
structure SrcOk (P : Program) (γ : Gh) (w : World) (bs : Nat → Option Blk) (u : Nat → Bool) (s : Src) (v : Value) (vs : List Value) : Prop where
 rd : RowsRd γ w bs u s vs
 len : ∀ w1, (Builtin.lenOf v).run P w1 = .ok s.rows.length w1
 first : ∀ w1 : World, w1.heap = w.heap → (Builtin.firstCells s.size s.rows.length v).run P w1 = .ok vs.toArray w1
theorem srcOk_nil {P : Program} {γ : Gh} {w : World} {bs : Nat → Option Blk} {u : Nat → Bool} (b : Option Nat) (off size : Nat) (excl : Bool) {v : Value} (h : v = .slice none 0 0 ∨ ∃ a, v = .slice (some a) 0 0) :
  SrcOk P γ w bs u ⟨b, off, size, excl, []⟩ v [] where
 rd := ⟨fun r hr => by simp at hr, by simp, fun i c hc => by simp at hc⟩
 len := by rcases h with rfl | ⟨a, rfl⟩ <;> exact fun _ => rfl
 first := by
  rcases h with rfl | ⟨a, rfl⟩
  ·exact fun _ _ => rfl
  ·intro w1 _
   show (loadCells a (0 * size)).run P w1 = _
   rw [Nat.zero_mul]; rfl
theorem map_strip_flatten (rows : List (List V)) : (rows.map (·.map V.strip)).flatten = rows.flatten.map V.strip := by
 rw [List.map_flatten]
theorem RowsRd.strip {γ : Gh} {w : World} {bs : Nat → Option Blk} {u : Nat → Bool} {s : Src} {vs : List Value} (h : RowsRd γ w bs u s vs) (b : Option Nat) (off : Nat) (hb : b = none) (excl : Bool) : RowsRd γ w bs u ⟨b, off, s.size, excl, s.rows.map (·.map V.strip)⟩ vs := by
 subst hb
 refine ⟨fun r hr => ?_, by rw [List.length_map]; exact h.2.1, fun i c hc => ?_⟩
 ·obtain ⟨r', hr', rfl⟩ := List.mem_map.1 hr
  rw [List.length_map]; exact h.1 r' hr'
 ·simp only [map_strip_flatten, List.getElem?_map, Option.map_eq_some_iff] at hc
  obtain ⟨c', hc', rfl⟩ := hc
  obtain ⟨v, a1, a2, a3, _⟩ := h.2.2 i c' hc'
  exact ⟨v, a1, a2.strip, a3, strip_own c'⟩
def DstAt (γ : Gh) (w : World) (st : St) (s : Src) (v : Value) (vs : List Value) : Prop :=
 (s.rows = [] ∧ (v = .slice none 0 0 ∨ ∃ B, v = .slice (some B) 0 0)) ∨
  ∃ b k B o cs e cap, s.b = some b ∧ st.b b = some k ∧ γ.loc b = some (B, o) ∧ γ.own B = some (.blk b) ∧ w.heap[B]? = some (.cells cs e (0, 0)) ∧
   v = .slice (some ⟨B, o + s.off * s.size, none⟩) s.rows.length cap ∧ s.rows.length ≤ cap ∧ o + (s.off + cap) * s.size ≤ cs.size ∧
   (∀ j, j < vs.length → cs[o + s.off * s.size + j]? = vs[j]?) ∧ (s.excl = true → γ.lim B = 0) ∧ γ.lim B ≤ o + (s.off + s.rows.length) * s.size
theorem ref_shape {P : Program} {G : Nat → Option (List V)} {γ : Gh} {st : St} {tmps : Array Value} {w : World} (h : Sim G γ st tmps w) {b off len : Nat} {k : Blk} (hk : st.b b = some k) (hlen : off + len ≤ k.rows.length) {v : Value}
  (hr : Rep γ w st.b st.u (.ref b off len) v) (excl : Bool) :
  ∃ vs, SrcOk P γ w st.b st.u ⟨some b, off, k.size, excl, (k.rows.drop off).take len⟩ v vs ∧
   ((((k.rows.drop off).take len) = [] ∧ (v = .slice none 0 0 ∨ ∃ B, v = .slice (some B) 0 0)) ∨
    ∃ B o cs e cap, γ.loc b = some (B, o) ∧ γ.own B = some (.blk b) ∧ w.heap[B]? = some (.cells cs e (0, 0)) ∧ v = .slice (some ⟨B, o + off * k.size, none⟩) len cap ∧ len ≤ cap ∧ o + (off + cap) * k.size ≤ cs.size ∧
     vs = (cs.toList.drop (o + off * k.size)).take (len * k.size) ∧ (k.excl = true → γ.lim B = 0) ∧ γ.lim B ≤ o + k.rows.length * k.size) := by
 have hl : ((k.rows.drop off).take len).length = len := by simp; omega
 rcases hr.ref_inv hk with ⟨B, o, cap, rfl, hloc, _, hcap, hroom, hM, _⟩ | ⟨B, rfl, rfl, _⟩ | ⟨rfl, rfl, _⟩
 ·rcases h.b b k hk with ⟨v1, _⟩ | hm | ⟨_, B', o', cs, e, h1, h2, h3, h4, h5, h6, h7, h8⟩
  ·rw [hloc] at v1; simp at v1
  ·exact (hm.small hM).elim
  ·rw [hloc] at h1; simp only [Option.some.injEq, Prod.mk.injEq] at h1
   obtain ⟨rfl, rfl⟩ := h1
   have rd := BlkAt.rd (b := b) (w := w) (γ := γ) (bs := st.b) (u := st.u) excl h4 h5 h6 hlen
   obtain ⟨cs', e', fz, r1, r2⟩ := hroom
   rw [h3] at r1; simp only [Option.some.injEq, Obj.cells.injEq] at r1
   obtain ⟨rfl, rfl, rfl⟩ := r1
   refine ⟨_, ⟨rd, fun _ => by simp [Builtin.lenOf, hl], ?_⟩, .inr ⟨B, o, cs, e, cap, hloc, h2, h3, rfl, hcap, r2, rfl, h7, h8⟩⟩
   simp only [hl]
   refine firstCells_at (by have := rd.2.1; simpa [hl] using this) fun j v hv => ?_
   rw [List.getElem?_take] at hv
   split at hv
   ·rw [List.getElem?_drop] at hv
    unfold cellAt World.cell?
    simp only [h3]
    simpa using hv
   ·simp at hv
 ·have e0 : (k.rows.drop off).take 0 = [] := by simp
  rw [e0]
  exact ⟨[], srcOk_nil _ _ _ _ (.inr ⟨_, rfl⟩), .inl ⟨rfl, .inr ⟨B, rfl⟩⟩⟩
 ·have e0 : (k.rows.drop off).take 0 = [] := by simp
  rw [e0]
  exact ⟨[], srcOk_nil _ _ _ _ (.inl rfl), .inl ⟨rfl, .inl rfl⟩⟩
theorem src_shape {P : Program} {G : Nat → Option (List V)} {γ : Gh} {st : St} {tmps : Array Value} {w : World} (h : Sim G γ st tmps w) {size : Nat} {db : Option Nat} {c : V} {s : Src} (hs : srcV st.b size db c = some s) {v : Value}
  (hr : Rep γ w st.b st.u c v) : s.size = size ∧ (∀ b, db = some b → s.b ≠ some b) ∧ ∃ vs, SrcOk P γ w st.b st.u s v vs := by
 unfold srcV at hs
 split at hs
 ·simp only [Option.some.injEq] at hs; subst hs
  have := hr.nilsl_inv; subst this
  exact ⟨rfl, fun b _ => by simp, [], srcOk_nil _ _ _ _ (.inl rfl)⟩
 ·rename_i own sz rows
  split at hs <;> simp at hs
  rename_i hsz
  subst hsz; subst hs
  refine ⟨rfl, fun b _ => by simp, ?_⟩
  obtain ⟨a, rfl, rfl⟩ | ⟨B, o, cap, vs, rfl, h1, h2, h3, h4⟩ := hr.sl_inv
  ·cases a with
   | none => exact ⟨[], srcOk_nil _ _ _ _ (.inl rfl)⟩
   | some a => exact ⟨[], srcOk_nil _ _ _ _ (.inr ⟨a, rfl⟩)⟩
  ·have fl : rows.flatten.length = rows.length * sz := by
    rw [List.length_flatten]
    have : rows.map List.length = List.replicate rows.length sz := List.eq_replicate_iff.2 ⟨by simp, fun x hx => by obtain ⟨r, hr, rfl⟩ := List.mem_map.1 hx; exact h2 r hr⟩
    rw [this]; simp
   have rd : RowsRd γ w st.b st.u ⟨none, 0, sz, true, rows.map (·.map V.strip)⟩ ((List.range (rows.length * sz)).map vs) := by
    refine ⟨fun r hr => ?_, by simp, fun i c hc => ?_⟩
    ·obtain ⟨r', hr', rfl⟩ := List.mem_map.1 hr
     simpa using h2 r' hr'
    ·simp only [map_strip_flatten, List.getElem?_map, Option.map_eq_some_iff] at hc
     obtain ⟨c', hc', rfl⟩ := hc
     have hlt : i < rows.length * sz := by rw [← fl]; exact (List.getElem?_eq_some_iff.1 hc').1
     exact ⟨vs i, by simp [hlt], (Rep.data (h4 i c' hc')).strip, (h4 i c' hc').oneCell, strip_own c'⟩
   refine ⟨_, rd, fun _ => by simp [Builtin.lenOf], ?_⟩
   simp only [List.length_map]
   refine firstCells_at (by simp) fun j v hv => ?_
   simp only [List.getElem?_map, Option.map_eq_some_iff] at hv
   obtain ⟨j', hj, rfl⟩ := hv
   have hlt : j < rows.length * sz := by have := (List.getElem?_eq_some_iff.1 hj).1; simpa using this
   rw [List.getElem?_range hlt] at hj
   simp only [Option.some.injEq] at hj; subst hj
   have hc : rows.flatten[j]? = some (rows.flatten[j]'(by rw [fl]; exact hlt)) := List.getElem?_eq_getElem _
   exact (h3 j _ hc).2
 ·rename_i b off len
  split at hs
  ·rename_i k hk
   split at hs
   ·rename_i hc
    obtain ⟨hsz, hlen⟩ := hc
    subst hsz
    split at hs
    ·simp only [Option.some.injEq] at hs; subst hs
     obtain ⟨vs, ho, _⟩ := ref_shape (P := P) h hk hlen hr true
     refine ⟨rfl, fun b _ => by simp, vs, ⟨ho.rd.strip none 0 rfl true, ?_, ?_⟩⟩
     ·have := ho.len; simpa using this
     ·have := ho.first; simpa using this
    ·rename_i hdb
     simp only [Option.some.injEq] at hs; subst hs
     obtain ⟨vs, ho, _⟩ := ref_shape (P := P) h hk hlen hr true
     exact ⟨rfl, fun b' hb' hx => hdb (by simp only [Option.some.injEq] at hx; rw [hb', hx]), vs, ho⟩
   ·simp at hs
  ·simp at hs
 ·simp at hs
theorem dst_shape {P : Program} {G : Nat → Option (List V)} {γ : Gh} {st : St} {tmps : Array Value} {w : World} (h : Sim G γ st tmps w) {size : Nat} {c : V} {s : Src} (hs : dstV st.b size c = some s) {v : Value}
  (hr : Rep γ w st.b st.u c v) : s.size = size ∧ ∃ vs, SrcOk P γ w st.b st.u s v vs ∧ DstAt γ w st s v vs := by
 unfold dstV at hs
 split at hs
 ·simp only [Option.some.injEq] at hs; subst hs
  have := hr.nilsl_inv; subst this
  exact ⟨rfl, [], srcOk_nil _ _ _ _ (.inl rfl), .inl ⟨rfl, .inl rfl⟩⟩
 ·rename_i b off len
  split at hs
  ·rename_i k hk
   split at hs <;> simp at hs
   rename_i hc
   obtain ⟨hsz, hlen, hex⟩ := hc
   subst hsz; subst hs
   have hl : ((k.rows.drop off).take len).length = len := by simp; omega
   obtain ⟨vs, ho, hsh⟩ := ref_shape (P := P) h hk hlen hr k.excl
   refine ⟨rfl, vs, ho, ?_⟩
   rcases hsh with ⟨h1, h2⟩ | ⟨B, o, cs, e, cap, h1, h2, h3, h4, h5, h6, h7, h8, h9⟩
   ·exact .inl ⟨h1, h2⟩
   ·refine .inr ⟨b, k, B, o, cs, e, cap, rfl, hk, h1, h2, h3, by rw [h4, hl], by rw [hl]; exact h5, h6, ?_, h8, ?_⟩
    ·intro j hj
     subst h7
     rw [List.getElem?_take]
     have hj' : j < len * k.size := by
      have := List.length_take_le (len * k.size) (cs.toList.drop (o + off * k.size)); omega
     rw [if_pos hj', List.getElem?_drop]
     simp
    ·simp only [hl]
     rcases hex with hex | hex
     ·rw [h8 hex]; exact Nat.zero_le _
     ·rw [hex]; exact h9
  ·simp at hs
 ·simp at hs
theorem Sim.appendVirt {G : Nat → Option (List V)} {γ : Gh} {st : St} {tmps : Array Value} {w : World} (h : Sim G γ st tmps w) {d : Nat} {b1 b2 : Option Nat} {k : Blk} (hu : st.u d = false) (hk : k.rows = []) :
  ∃ γ', Grow γ w γ' w ∧ Sim G γ' (((st.delO b1).delO b2).setB d k) tmps w ∧ BsLe γ st.b st.u γ' (((st.delO b1).delO b2).setB d k).b (((st.delO b1).delO b2).setB d k).u := by
 let γ' : Gh := { loc := fun b => if b = d then none else γ.loc b, own := γ.own, lim := γ.lim }
 have hb2 : ∀ b, b ≠ d → (((st.delO b1).delO b2).setB d k).b b = if b1 = some b ∨ b2 = some b then none else st.b b := by
  intro b hb
  simp only [St.setB]
  rw [if_neg hb, delO_b, delO_b]
  by_cases h1 : b2 = some b
  ·rw [if_pos h1, if_pos (.inr h1)]
  ·rw [if_neg h1]
   by_cases h2 : b1 = some b
   ·rw [if_pos h2, if_pos (.inl h2)]
   ·rw [if_neg h2, if_neg (by simp [h1, h2])]
 have hu2 : ∀ b, st.u b = true → (((st.delO b1).delO b2).setB d k).u b = true := by
  intro b hb
  simp only [St.setB]
  split
  ·rfl
  ·cases b1 <;> cases b2 <;> simp only [St.delO, St.delB] <;> (try split) <;> (try split) <;> first | rfl | exact hb
 have g : Grow γ w γ' w := ⟨rfl, rfl, rfl, Nat.le_refl _, fun _ _ _ _ h => h, fun _ _ => Nat.le_refl _, fun _ _ h => ⟨rfl, h, rfl⟩, fun _ cs _ _ h => ⟨cs, h, rfl⟩⟩
 have bl : BsLe γ st.b st.u γ' (((st.delO b1).delO b2).setB d k).b (((st.delO b1).delO b2).setB d k).u := by
  refine ⟨hu2, fun b hb hn => ?_, fun b k' hk' => ⟨hu2 b (h.u b k' hk'), ?_⟩⟩
  ·have : b ≠ d := fun e => by subst e; rw [hu] at hb; simp at hb
   rw [hb2 b this]; split
   ·rfl
   ·exact hn
  ·have : b ≠ d := fun e => by subst e; rw [h.fresh_b hu] at hk'; simp at hk'
   rw [hb2 b this]
   split
   ·exact .inl rfl
   ·exact .inr ⟨k', hk', rfl, fun _ => rfl, by show (if b = d then none else γ.loc b) = _; rw [if_neg this]⟩
 refine ⟨γ', g, ⟨?_, fun i => ?_, fun b k' hk' => ?_, fun b k' hk' => ?_, h.g.grow g, h.o⟩, bl⟩
 ·have : (((st.delO b1).delO b2).setB d k).n = st.n := by cases b1 <;> cases b2 <;> rfl
  rw [this]; exact h.n
 ·have : (((st.delO b1).delO b2).setB d k).t = st.t := by cases b1 <;> cases b2 <;> rfl
  rw [this]; exact (h.t i).mono g bl
 ·by_cases hbd : b = d
  ·subst hbd
   simp only [St.setB, if_pos] at hk'
   simp only [Option.some.injEq] at hk'; subst hk'
   exact .inl ⟨by simp [γ'], hk⟩
  ·rw [hb2 b hbd] at hk'
   split at hk'
   ·simp at hk'
   ·rcases h.b b k' hk' with ⟨v1, v2⟩ | hm | ⟨hM2, X, o', cs', e', a1, a2, a3, a4, a5, a6, a7, a8⟩
    ·exact .inl ⟨by show (if b = d then none else γ.loc b) = _; rw [if_neg hbd]; exact v1, v2⟩
    ·exact .inr (.inl (hm.same (by show (if b = d then none else γ.loc b) = _; rw [if_neg hbd]) (fun X _ q2 => ⟨q2, rfl⟩) fun c v hr => hr.mono g bl))
    ·refine .inr (.inr ⟨hM2, X, o', cs', e', by show (if b = d then none else γ.loc b) = _; rw [if_neg hbd]; exact a1, a2, a3, a4, a5, fun i c hc => ?_, a7, a8⟩)
     obtain ⟨v, b1, b2, b3, b4⟩ := a6 i c hc
     exact ⟨v, b1, b2.mono g bl, b3, b4.mono fun Y hY => ⟨hY, Nat.le_refl _⟩⟩
 ·by_cases hbd : b = d
  ·subst hbd; simp [St.setB]
  ·rw [hb2 b hbd] at hk'
   split at hk'
   ·simp at hk'
   ·exact hu2 b (h.u b k' hk')
def appendW (P : Program) (look : Nat → Option Blk) (t t2 : TypeId) (db : Src → Option Nat) (x y : V) : Option (Src × Src × Blk) :=
 match P.underlying t, P.underlying t2 with
 | some (.slice e), some (.slice _) => match P.info? e with
  | some ei => match dstV look ei.size x with
   | some ds => match srcV look ei.size (db ds) y with
    | some ss => if (ds.rows.length + ss.rows.length) * ei.bytes ≤ 140737488355328 ∧ 0 < ei.bytes ∧ (zeroV P e).map List.length = some ei.size then some (ds, ss, ⟨ei.size, ds.excl, ds.rows ++ ss.rows⟩) else none
    | none => none
   | none => none
  | none => none
 | _, _ => none
theorem srcV_apart {look : Nat → Option Blk} {size : Nat} {db : Option Nat} {c : V} {s : Src} (h : srcV look size db c = some s) : ∀ b, db = some b → s.b ≠ some b := by
 intro b hb
 unfold srcV at h
 split at h
 ·simp only [Option.some.injEq] at h; subst h; simp
 ·split at h <;> simp at h
  subst h; simp
 ·split at h
  ·split at h
   ·split at h <;> simp only [Option.some.injEq] at h
    ·subst h; simp
    ·rename_i hn
     subst h
     rw [hb] at hn
     intro e
     simp only [Option.some.injEq] at e
     exact hn (by rw [e])
   ·simp at h
  ·simp at h
 ·simp at h
theorem appendV_apart {P : Program} {look : Nat → Option Blk} {t t2 : TypeId} {x y : V} {ds ss : Src} {k : Blk} (h : appendV P look t t2 x y = some (ds, ss, k)) : ∀ b, ds.b = some b → ss.b ≠ some b := by
 unfold appendV at h
 split at h
 ·split at h
  ·split at h
   ·split at h
    ·rename_i hss
     split at h <;> simp at h
     obtain ⟨rfl, rfl, _⟩ := h
     exact srcV_apart hss
    ·simp at h
   ·simp at h
  ·simp at h
 ·simp at h
theorem effO_appendW {P : Program} {G : Nat → Option (List V)} {o : Oper} {st : St} {x y : Operand} {t t2 : TypeId} {d : Nat} {cx cy : V} {ds0 ss0 : Src} {k0 : Blk} (ho : o.op = .call { callee := .builtin .append, args := #[x, y], argTypes := #[t, t2] })
    (hd : o.dst = some d) (hn : d < st.n) (hu : st.u d = false) (hx : Evs G st x cx) (hy : Evs G st y cy) {db : Src → Option Nat} (ha : appendW P st.b t t2 db cx cy = some (ds0, ss0, k0)) (hnn : ∀ b, ds0.b = some b → ss0.b ≠ some b) :
    EffO P G o st ((((st.delO ds0.b).delO ss0.b).setB d k0).setT d (.ref d 0 (ds0.rows.length + ss0.rows.length))) :=
  effO_value fun γ a w hs => by
    unfold appendW at ha
    split at ha
    · rename_i e e2 ht ht2
      split at ha
      · rename_i ei hi
        split at ha
        · rename_i ds hds
          split at ha
          · rename_i ss hss
            split at ha <;> simp at ha
            rename_i hcond
            obtain ⟨rfl, rfl, rfl⟩ := ha
            obtain ⟨hbytes, hbpos, hzl⟩ := hcond
            obtain ⟨zc, hzc, hzlen⟩ := Option.map_eq_some_iff.1 hzl
            have hM : ds.size < MAPS := by
              rw [(dst_shape (P := P) hs hds (hx γ a w hs)).1, ← hzlen]; exact (smallL_spec hzc).2
            obtain ⟨e1, vd, hdo, hda⟩ := dst_shape (P := P) hs hds (hx γ a w hs)
            obtain ⟨e2', _, vsr, hso⟩ := src_shape (P := P) hs hss (hy γ a w hs)
            have hne : ∀ b, ds.b = some b → ss.b ≠ some b := hnn
            have pre : execOp a.eval o = (do let v ← Builtin.append_ #[t, t2] o.type #[a.eval x, a.eval y]; pure (.value v)) := by
              have h1 : execOp a.eval o = builtin .append #[t, t2] o.type (#[x, y].map fun | .const _ => true | _ => false) (#[x, y].map a.eval) := by
                show (execOp a.eval o) = _; unfold execOp; rw [ho]; rfl
              rw [h1]; simp [builtin]

            obtain ⟨z, hz1, hz2⟩ : ∃ z, ei.zero = some z ∧ z.cells.size = ei.size := by
              obtain ⟨zv, hr, hcr⟩ := run_zeroV (P := P) (γ := γ) (w := w) (bs := st.b) (u := st.u) hzc
              replace hzc := (smallL_spec hzc).1
              unfold zeroV0 at hzc
              rw [hi] at hzc
              simp only at hzc
              cases hz : ei.zero with
              | none => rw [hz] at hzc; simp at hzc
              | some z =>
                have : (zeroValue e).run P w = .ok z w := by simp [zeroValue, typeInfo, hi, hz]
                rw [this] at hr
                simp only [Result.ok.injEq, and_true] at hr
                subst hr
                exact ⟨z, rfl, by rw [hcr.1, hzlen]⟩
            have hdl : vd.length = ds.rows.length * ei.size := by rw [← e1]; exact hdo.rd.2.1
            have hsl : vsr.length = ss.rows.length * ei.size := by rw [← e2']; exact hso.rd.2.1
            have h63 : ((ds.rows.length + ss.rows.length : Nat) : Int) ≤ 9223372036854775807 := by
              have : ds.rows.length + ss.rows.length ≤ (ds.rows.length + ss.rows.length) * ei.bytes := Nat.le_mul_of_pos_right _ hbpos
              omega
            have hone : ∀ v, v ∈ vsr → v.oneCell' = true := fun v hv => by
              obtain ⟨j, hj, rfl⟩ := List.getElem_of_mem hv
              have fl : ss.rows.flatten.length = ss.rows.length * ss.size := by
                rw [List.length_flatten]
                have : ss.rows.map List.length = List.replicate ss.rows.length ss.size := List.eq_replicate_iff.2 ⟨by simp, fun x hx => by obtain ⟨r, hr, rfl⟩ := List.mem_map.1 hx; exact hso.rd.1 r hr⟩
                rw [this]; simp
              have hjl : j < ss.rows.flatten.length := by rw [fl, e2']; omega
              obtain ⟨v, a1, _, a3, _⟩ := hso.rd.2.2 j _ (List.getElem?_eq_getElem hjl)
              rw [List.getElem?_eq_getElem hj] at a1
              simp only [Option.some.injEq] at a1
              rw [a1]; exact a3

            obtain ⟨base, cap, hv⟩ : ∃ base cap, a.eval x = .slice base ds.rows.length cap := by
              rcases hda with ⟨h0, h1 | ⟨B, h1⟩⟩ | ⟨b, k, B, o', cs, e', cap, _, _, _, _, _, h1, _⟩
              · exact ⟨none, 0, by rw [h1, h0]; rfl⟩
              · exact ⟨_, 0, by rw [h1, h0]; rfl⟩
              · exact ⟨_, cap, h1⟩
            have hlenS := hso.len
            have hfS := hso.first
            have hfD := hdo.first
            rw [e2'] at hfS
            rw [e1, hv] at hfD
            rw [show (⟨ei.size, ds.excl, ds.rows ++ ss.rows⟩ : Blk) = ⟨ds.size, ds.excl, ds.rows ++ ss.rows⟩ by rw [e1]]
            by_cases hg : cap < ds.rows.length + ss.rows.length
            ·
              have hrun := run_append_grow_any (P := P) (w := w) t t2 o.type e e2 ei z ht ht2 hi hz1 base ds.rows.length cap ss.rows.length (a.eval y) vd vsr hlenS hfD hfS hg h63 (growslice_fits hg hbytes)
              let N := grownCap w (ds.rows.length + ss.rows.length) cap e
              have hN : ds.rows.length + ss.rows.length ≤ N := by
                show _ ≤ (Question.appendCap _ _ _).cut _
                simp only [Question.cut]; omega
              let cs : Array Value := vd.toArray ++ vsr.toArray ++ Builtin.zeroCells z.cells (N - (ds.rows.length + ss.rows.length))
              have hzc : (Builtin.zeroCells z.cells (N - (ds.rows.length + ss.rows.length))).size = (N - (ds.rows.length + ss.rows.length)) * ei.size := by simp [Builtin.zeroCells, hz2]
              have hcs : cs.size = N * ei.size := by
                simp only [cs, Array.size_append, hzc, List.size_toArray, hdl, hsl]
                rw [← Nat.add_mul, ← Nat.add_mul]
                congr 1; omega
              have hh : (w.drew.alloc (.cells cs e)).heap = w.heap.push (.cells cs e) := rfl
              have gp : Grow γ w (γ.add d w.heap.size) (w.drew.alloc (.cells cs e)) := Grow.push hh ⟨rfl, rfl, rfl⟩ d
              have g : Grow γ w (γ.move ds ss d w.heap.size 0 0) (w.drew.alloc (.cells cs e)) := by
                refine ⟨gp.os, gp.tape, gp.output, gp.size, gp.imm, gp.lim, fun B hB ho => ?_, gp.room⟩
                obtain ⟨q1, q2, q3⟩ := gp.free B hB ho
                refine ⟨q1, ?_, q3⟩
                simp only [Gh.move]
                rw [if_neg (by omega), ho]; rfl
              have hlt : ∀ X t, γ.own X = some t → X ≠ w.heap.size := fun X t hX => by have := hs.o X t hX; omega
              have hroomcs : (ds.rows.length + ss.rows.length) * ei.size ≤ cs.size := by rw [hcs]; exact Nat.mul_le_mul_right _ hN
              have key := hs.appendTo (lim := 0) (B := w.heap.size) (o := 0) (cs := cs) (e := e) (w1 := w.drew.alloc (.cells cs e)) hM hu hdo.rd hso.rd (e1.trans e2'.symm) hne (by rw [hh]; simp) (by rw [e1, Nat.zero_add]; exact hroomcs)
                (fun j hj => by
                  simp only [cs, Nat.zero_add]
                  rw [Array.getElem?_append_left (by simp; omega)]
                  simp) g
                (fun b k X o' _ _ _ _ hX => ⟨hlt X _ hX, heap_push_lt hh (hs.o X _ hX)⟩) (by rw [hh]; simp) (fun X t hX => by rw [hh]; have := hs.o X t hX; simp; omega) (fun _ => rfl) (Nat.zero_le _) (fun X b i j hX => hlt X _ hX)
              refine ⟨_, _, _, by rw [pre, Sem.run_bind, hv, hrun, Result.andThen_ok]; rfl, g, key.2.pin, ?_⟩
              have hb := key.1.put (a := a) (dst := some d) (c := .ref d 0 (ds.rows.length + ss.rows.length)) (v := .slice (some ⟨w.heap.size, 0, none⟩) (ds.rows.length + ss.rows.length) N)
                (by have : (((st.delO ds.b).delO ss.b).setB d ⟨ds.size, ds.excl, ds.rows ++ ss.rows⟩).n = st.n := by cases ds.b <;> cases ss.b <;> rfl
                    simpa [dstOk, this] using hn) (by
                have := Rep.ref (γ := γ.move ds ss d w.heap.size 0 0) (w := w.drew.alloc (.cells cs e)) (bs := (((st.delO ds.b).delO ss.b).setB d ⟨ds.size, ds.excl, ds.rows ++ ss.rows⟩).b) (u := (((st.delO ds.b).delO ss.b).setB d ⟨ds.size, ds.excl, ds.rows ++ ss.rows⟩).u)
                  d 0 (ds.rows.length + ss.rows.length) w.heap.size 0 N ⟨ds.size, ds.excl, ds.rows ++ ss.rows⟩ (by simp [St.setB]) (by simp [Gh.move]) (by simp) hN ⟨cs, e, (0, 0), by rw [hh]; simp, by rw [hcs, e1]; simp⟩ hM (by simpa using hN)
                simpa using this)
              rw [hd]; exact hb
            ·
              rcases hda with ⟨h0, hsh⟩ | ⟨b, k, B, o', cs, e', cap', hdb, hk, hloc, hown, hheap, hval, hcap, hroom, hcell, hl0, hl1⟩
              ·
                have hcap0 : cap = 0 := by
                  rcases hsh with h1 | ⟨B', h1⟩ <;> (rw [hv] at h1; simp only [Value.slice.injEq] at h1; exact h1.2.2)
                have hss0 : ss.rows = [] := List.length_eq_zero_iff.1 (by omega)
                have hds0 : ds.rows.length = 0 := by rw [h0]; rfl
                have hrun := run_append_none (P := P) (w := w) t t2 o.type e e2 ei ht ht2 hi base (a.eval y) cap (fun w1 => by have := hlenS w1; rw [hss0] at this; exact this) (fun w1 hw => by
                  have := hfS w1 hw
                  rw [hss0] at this
                  have hv0 : vsr = [] := List.length_eq_zero_iff.1 (by rw [hsl, hss0]; simp)
                  rw [hv0] at this; exact this)
                obtain ⟨γ', g, hs', bl⟩ := hs.appendVirt (d := d) (b1 := ds.b) (b2 := ss.b) (k := ⟨ds.size, ds.excl, ds.rows ++ ss.rows⟩) hu (by rw [h0, hss0]; rfl)
                refine ⟨_, _, γ', by rw [pre, Sem.run_bind, hv, hds0, hrun, Result.andThen_ok]; rfl, g, bl.pin, ?_⟩
                have hb := hs'.put (a := a) (dst := some d) (c := .ref d 0 0) (v := .slice base 0 cap)
                  (by have : (((st.delO ds.b).delO ss.b).setB d ⟨ds.size, ds.excl, ds.rows ++ ss.rows⟩).n = st.n := by cases ds.b <;> cases ss.b <;> rfl
                      simpa [dstOk, this] using hn) (by
                  rw [hcap0]
                  rcases hsh with h1 | ⟨B', h1⟩ <;> (rw [hv] at h1; simp only [Value.slice.injEq] at h1; rw [h1.1])
                  · exact .refN d 0 ⟨ds.size, ds.excl, ds.rows ++ ss.rows⟩ (by simp [St.setB]) hM (by simp_all)
                  · exact .refE d 0 B' ⟨ds.size, ds.excl, ds.rows ++ ss.rows⟩ (by simp [St.setB]) hM (by simp_all))
                rw [hd, show ds.rows.length + ss.rows.length = 0 by rw [hds0, hss0]; rfl, ← hds0]
                rw [hds0]; exact hb
              ·
                rw [hv] at hval
                simp only [Value.slice.injEq, true_and] at hval
                obtain ⟨rfl, rfl⟩ := hval
                rw [e1] at hroom hcell hl1 hv
                have hge : ds.rows.length + ss.rows.length ≤ cap := by omega
                have hr1 : (ds.off + (ds.rows.length + ss.rows.length)) * ei.size ≤ (ds.off + cap) * ei.size := Nat.mul_le_mul_right _ (by omega)
                simp only [Nat.add_mul] at hr1 hroom hl1
                have hroom2 : o' + ds.off * ei.size + ds.rows.length * ei.size + vsr.length ≤ cs.size := by rw [hsl]; omega
                have hrun := run_append_in_any (P := P) (w := w) t t2 o.type e e2 ei ht ht2 hi B (o' + ds.off * ei.size) ds.rows.length cap ss.rows.length (a.eval y) vsr cs e' hlenS hfS hge hheap hone hroom2
                obtain ⟨s1, s2⟩ := setRange_spec vsr (o' + ds.off * ei.size + ds.rows.length * ei.size) cs hroom2
                have hBlt := hs.o B _ hown
                have gp : Grow γ w γ (World.setBlk w B (setRange cs (o' + ds.off * ei.size + ds.rows.length * ei.size) vsr) e') := Grow.setBlk hheap s1 (fun j v hj hc => by
                  rw [s2, if_neg (by omega)]; exact hc) hown
                have g : Grow γ w (γ.move ds ss d B (o' + ds.off * ei.size) (γ.lim B)) (World.setBlk w B (setRange cs (o' + ds.off * ei.size + ds.rows.length * ei.size) vsr) e') := by
                  refine ⟨gp.os, gp.tape, gp.output, gp.size, gp.imm, fun X hX => ?_, fun X hX ho => ?_, gp.room⟩
                  · simp only [Gh.move]; split
                    · rename_i hXB; rw [hXB]; exact Nat.le_refl _
                    · exact Nat.le_refl _
                  · obtain ⟨q1, q2, q3⟩ := gp.free X hX ho
                    have hXB : X ≠ B := fun e => by subst e; rw [hown] at ho; simp at ho
                    refine ⟨q1, ?_, ?_⟩
                    · simp only [Gh.move]; rw [if_neg hXB, ho]; rfl
                    · simp only [Gh.move]; rw [if_neg hXB]
                have key := hs.appendTo (lim := γ.lim B) (B := B) (o := o' + ds.off * ei.size) (cs := setRange cs (o' + ds.off * ei.size + ds.rows.length * ei.size) vsr) (e := e') hM hu hdo.rd hso.rd (e1.trans e2'.symm) hne (setBlk_get hBlt) (by rw [s1, e1, Nat.add_mul]; omega)
                  (fun j hj => by
                    rw [s2]
                    by_cases hjd : j < vd.length
                    · rw [if_neg (by omega), List.getElem?_append_left hjd]; exact hcell j hjd
                    · rw [if_pos (by omega), List.getElem?_append_right (by omega)]
                      congr 1; omega) g
                  (fun b' k' X o2 hk' hnb _ _ hX => by
                    have hXB : X ≠ B := fun e => by
                      subst e; rw [hown] at hX; simp only [Option.some.injEq, Owner.blk.injEq] at hX
                      exact hnb (by rw [hdb, hX])
                    exact ⟨hXB, setBlk_ne hXB⟩) (by simpa [World.setBlk] using hBlt) (fun X t hX => by simpa [World.setBlk] using hs.o X t hX) hl0 (by rw [e1, Nat.add_mul]; omega)
                  (fun X b' i j hX e => by subst e; rw [hown] at hX; simp at hX)
                refine ⟨_, _, _, by rw [pre, Sem.run_bind, hv, hrun, Result.andThen_ok]; rfl, g, key.2.pin, ?_⟩
                have hb := key.1.put (a := a) (dst := some d) (c := .ref d 0 (ds.rows.length + ss.rows.length)) (v := .slice (some ⟨B, o' + ds.off * ei.size, none⟩) (ds.rows.length + ss.rows.length) cap)
                  (by have : (((st.delO ds.b).delO ss.b).setB d ⟨ds.size, ds.excl, ds.rows ++ ss.rows⟩).n = st.n := by cases ds.b <;> cases ss.b <;> rfl
                      simpa [dstOk, this] using hn) (by
                  have := Rep.ref (γ := γ.move ds ss d B (o' + ds.off * ei.size) (γ.lim B)) (w := World.setBlk w B (setRange cs (o' + ds.off * ei.size + ds.rows.length * ei.size) vsr) e') (bs := (((st.delO ds.b).delO ss.b).setB d ⟨ds.size, ds.excl, ds.rows ++ ss.rows⟩).b) (u := (((st.delO ds.b).delO ss.b).setB d ⟨ds.size, ds.excl, ds.rows ++ ss.rows⟩).u)
                    d 0 (ds.rows.length + ss.rows.length) B (o' + ds.off * ei.size) cap ⟨ds.size, ds.excl, ds.rows ++ ss.rows⟩ (by simp [St.setB]) (by simp [Gh.move]) (by simp) hge ⟨_, e', (0, 0), setBlk_get hBlt, by rw [s1, e1]; simp only [Nat.zero_add]; omega⟩ hM (by simpa using hge)
                  simpa using this)
                rw [hd]; exact hb
          · simp at ha
        · simp at ha
      · simp at ha
    · simp at ha
theorem effO_append' {P : Program} {G : Nat → Option (List V)} {o : Oper} {st : St} {x y : Operand} {t t2 : TypeId} {d : Nat} {cx cy : V} {ds0 ss0 : Src} {k0 : Blk} (ho : o.op = .call { callee := .builtin .append, args := #[x, y], argTypes := #[t, t2] })
  (hd : o.dst = some d) (hn : d < st.n) (hu : st.u d = false) (hx : Evs G st x cx) (hy : Evs G st y cy) (ha : appendV P st.b t t2 cx cy = some (ds0, ss0, k0)) :
  EffO P G o st ((((st.delO ds0.b).delO ss0.b).setB d k0).setT d (.ref d 0 (ds0.rows.length + ss0.rows.length))) :=
 effO_appendW (db := fun ds => ds.b) ho hd hn hu hx hy ha (appendV_apart ha)
theorem effO_append {P : Program} {G : Nat → Option (List V)} {o : Oper} {st : St} {x y : Operand} {t t2 : TypeId} {d : Nat} {cx cy : V} {ds0 ss0 : Src} {k0 : Blk} (ho : o.op = .call { callee := .builtin .append, args := #[x, y], argTypes := #[t, t2] })
  (hd : o.dst = some d) (hn : d < st.n) (hu : st.u d = false) (hx : st.ev G x = some cx) (hy : st.ev G y = some cy) (ha : appendV P st.b t t2 cx cy = some (ds0, ss0, k0)) :
  EffO P G o st ((((st.delO ds0.b).delO ss0.b).setB d k0).setT d (.ref d 0 (ds0.rows.length + ss0.rows.length))) :=
 effO_append' ho hd hn hu (fun _ _ _ hs => hs.ev hx) (fun _ _ _ hs => hs.ev hy) ha
end Go.EV
namespace Go.EV
open Go
mutual
def okV (u : Nat → Bool) : V → Bool
 | .ref b _ _ => u b
 | .ptr b _ _ => u b
 | .mp b => u b
 | .fn _ a c => okL u a && okL u c
 | .agg l => okL u l
 | .tup l => okL u l
 | _ => true
def okL (u : Nat → Bool) : List V → Bool
 | [] => true
 | c :: l => okV u c && okL u l
end
theorem okL_get {u : Nat → Bool} : ∀ {l : List V}, okL u l = true → ∀ {i : Nat} {c : V}, l[i]? = some c → okV u c = true
 | [], _, i, c, h => by simp at h
 | x :: l, hl, i, c, h => by
  simp only [okL, Bool.and_eq_true] at hl
  cases i with
  | zero => simp at h; subst h; exact hl.1
  | succ i => exact okL_get hl.2 (by simpa using h)
theorem Rep.shrink {γ : Gh} {w : World} {bs bs' : Nat → Option Blk} {u u' : Nat → Bool} (hb : ∀ b, bs' b = none ∨ bs' b = bs b) {c : V} {v : Value} (h : Rep γ w bs u c v) : okV u' c = true → Rep γ w bs' u' c v := by
 induction h with
 | data h => exact fun _ => .data h
 | undef v => exact fun _ => .undef v
 | ref b off len B o cap k h1 h2 h3 h4 h5 h6 h7 =>
  intro hu
  rcases hb b with hn | he
  ·exact .deadRef b off len _ hn (by simpa [okV] using hu) rfl
  ·exact .ref b off len B o cap k (he.trans h1) h2 h3 h4 h5 h6 h7
 | refE b off B k h1 h6 h2 =>
  intro hu
  rcases hb b with hn | he
  ·exact .deadRef b off 0 _ hn (by simpa [okV] using hu) rfl
  ·exact .refE b off B k (he.trans h1) h6 h2
 | refN b off k h1 h6 h2 =>
  intro hu
  rcases hb b with hn | he
  ·exact .deadRef b off 0 _ hn (by simpa [okV] using hu) rfl
  ·exact .refN b off k (he.trans h1) h6 h2
 | deadRef b off len v h1 h2 h3 =>
  intro hu
  refine .deadRef b off len v ?_ (by simpa [okV] using hu) h3
  rcases hb b with hn | he
  ·exact hn
  ·rw [he]; exact h1
 | ptr b i off B o k h1 h2 h3 =>
  intro hu
  rcases hb b with hn | he
  ·exact .deadPtr b i off _ hn (by simpa [okV] using hu) rfl
  ·exact .ptr b i off B o k (he.trans h1) h2 h3
 | mp b B k h1 h2 h3 =>
  intro hu
  rcases hb b with hn | he
  ·exact .deadMp b _ hn (by simpa [okV] using hu) rfl
  ·exact .mp b B k (he.trans h1) h2 h3
 | deadMp b v h1 h2 h3 =>
  intro hu
  refine .deadMp b v ?_ (by simpa [okV] using hu) h3
  rcases hb b with hn | he
  ·exact hn
  ·rw [he]; exact h1
 | deadPtr b i off v h1 h2 h3 =>
  intro hu
  refine .deadPtr b i off v ?_ (by simpa [okV] using hu) h3
  rcases hb b with hn | he
  ·exact hn
  ·rw [he]; exact h1
 | fn f first captured fs cs h1 h2 _ _ ih1 ih2 =>
  intro hu
  simp only [okV, Bool.and_eq_true] at hu
  exact .fn f first captured fs cs h1 h2 (fun i c v hc hv => ih1 i c v hc hv (okL_get hu.1 hc)) (fun i c v hc hv => ih2 i c v hc hv (okL_get hu.2 hc))
 | agg cells vs h1 _ ih => intro hu; exact .agg cells vs h1 fun i c v hc hv => ih i c v hc hv (okL_get (by simpa [okV] using hu) hc)
 | tup cells vs h1 _ ih => intro hu; exact .tup cells vs h1 fun i c v hc hv => ih i c v hc hv (okL_get (by simpa [okV] using hu) hc)
structure Forget (st st' : St) : Prop where
 n : st'.n = st.n
 t : ∀ i, st'.t i = .undef ∨ (st'.t i = st.t i ∧ okV st'.u (st.t i) = true)
 b : ∀ b, st'.b b = none ∨ (st'.b b = st.b b ∧ ∀ k, st.b b = some k → st'.u b = true ∧ ∀ r, r ∈ k.rows → ∀ c, c ∈ r → okV st'.u c = true)
 p : ∀ b, uPin b = true → st'.u b = true
theorem Forget.sim {G : Nat → Option (List V)} {γ : Gh} {st st' : St} {tmps : Array Value} {w : World} (f : Forget st st') (h : Sim G γ st tmps w) : Sim G γ st' tmps w where
 n := by rw [f.n]; exact h.n
 t := fun i => by
  rcases f.t i with e | ⟨e, hk⟩
  ·rw [e]; exact .undef _
  ·rw [e]; exact (h.t i).shrink (fun b => (f.b b).imp id And.left) hk
 b := fun b k hk => by
  rcases f.b b with e | ⟨e, hr⟩
  ·rw [e] at hk; simp at hk
  ·rw [e] at hk
   rcases h.b b k hk with h0 | hm | ⟨hM, B, o, cs, e', h1, h2, h3, h4, h5, h6, h7, h8⟩
   ·exact .inl h0
   ·obtain ⟨hM, B, es, clock, h1, h2, h3, h4, h5, h6, h7⟩ := hm
    refine .inr (.inl ⟨hM, B, es, clock, h1, h2, h3, h4, h5, h6, fun i c hc => ?_⟩)
    obtain ⟨v, a1, a2, a3⟩ := h7 i c hc
    refine ⟨v, a1, a2.shrink (fun b => (f.b b).imp id And.left) ?_, a3⟩
    obtain ⟨r, hr1, hr2⟩ := List.mem_flatten.1 (List.mem_of_getElem? hc)
    exact (hr k hk).2 r hr1 c hr2
   ·refine .inr (.inr ⟨hM, B, o, cs, e', h1, h2, h3, h4, h5, fun i c hc => ?_, h7, h8⟩)
    obtain ⟨v, a1, a2, a3, a4⟩ := h6 i c hc
    refine ⟨v, a1, a2.shrink (fun b => (f.b b).imp id And.left) ?_, a3, a4⟩
    obtain ⟨r, hr1, hr2⟩ := List.mem_flatten.1 (List.mem_of_getElem? hc)
    exact (hr k hk).2 r hr1 c hr2
 u := fun b k hk => by
  rcases f.b b with e | ⟨e, hr⟩
  ·rw [e] at hk; simp at hk
  ·rw [e] at hk; exact (hr k hk).1
 g := h.g
 o := h.o
theorem Forget.pin {G : Nat → Option (List V)} {γ : Gh} {st st' : St} {tmps : Array Value} {w : World} (f : Forget st st') (_ : Sim G γ st tmps w) : Pin γ st.b st.u γ st'.b st'.u := fun b hb => by
 refine ⟨fun _ => f.p b hb, fun _ hn => ?_, fun k hk => ⟨f.p b hb, ?_⟩⟩
 ·rcases f.b b with e | ⟨e, _⟩
  ·exact e
  ·rw [e]; exact hn
 ·rcases f.b b with e | ⟨e, _⟩
  ·exact .inl e
  ·exact .inr ⟨k, by rw [e]; exact hk, rfl, fun _ => rfl, rfl⟩
def stOf (n : Nat) (ts : List (Nat × V)) (bs : List (Nat × Blk)) (us : List Nat) : St where
 n := n
 t := fun i => match ts.find? (fun p => p.1 == i) with | some p => p.2 | none => .undef
 b := fun i => match bs.find? (fun p => p.1 == i) with | some p => some p.2 | none => none
 u := fun i => us.contains i || uTop i
theorem forget_to {st : St} {n : Nat} {ts : List (Nat × V)} {bs : List (Nat × Blk)} {us : List Nat} (hn : n = st.n) (ht : ts.map (fun p => st.t p.1) = ts.map (·.2)) (hto : ts.all (fun p => okV (stOf n ts bs us).u p.2) = true)
  (hb : bs.map (fun p => st.b p.1) = bs.map (fun p => some p.2)) (hbu : bs.all (fun p => (stOf n ts bs us).u p.1) = true) (hbo : ∀ p, p ∈ bs → ∀ r, r ∈ p.2.rows → ∀ c, c ∈ r → okV (stOf n ts bs us).u c = true) : Forget st (stOf n ts bs us) where
 n := hn
 t := fun i => by
  show (match ts.find? (fun p => p.1 == i) with | some p => p.2 | none => V.undef) = .undef ∨ _
  cases hf : ts.find? (fun p => p.1 == i) with
  | none => exact .inl rfl
  | some p =>
   refine .inr ?_
   have hm := List.mem_of_find?_eq_some hf
   have hi : p.1 = i := by simpa using List.find?_some hf
   have e : st.t p.1 = p.2 := List.map_inj_left.1 ht p hm
   have ho : okV (stOf n ts bs us).u p.2 = true := List.all_eq_true.1 hto p hm
   refine ⟨?_, ?_⟩
   ·show (match ts.find? (fun p => p.1 == i) with | some p => p.2 | none => V.undef) = st.t i
    rw [hf, ← hi, e]
   ·rw [← hi, e]; exact ho
 b := fun i => by
  show (match bs.find? (fun p => p.1 == i) with | some p => some p.2 | none => none) = none ∨ _
  cases hf : bs.find? (fun p => p.1 == i) with
  | none => exact .inl rfl
  | some p =>
   refine .inr ?_
   have hm := List.mem_of_find?_eq_some hf
   have hi : p.1 = i := by simpa using List.find?_some hf
   have e : st.b p.1 = some p.2 := List.map_inj_left.1 hb p hm
   refine ⟨?_, fun k hk => ?_⟩
   ·show (match bs.find? (fun p => p.1 == i) with | some p => some p.2 | none => none) = st.b i
    rw [hf, ← hi, e]
   ·rw [← hi, e] at hk
    simp only [Option.some.injEq] at hk; subst hk
    exact ⟨by rw [← hi]; exact List.all_eq_true.1 hbu p hm, hbo p hm⟩
 p := fun b hb => by simp [stOf, uTop, uPin_le hb]
end Go.EV
namespace Go.EV
open Go
inductive Loc where
 | t (i : Nat)
 | b (i : Nat)
 deriving DecidableEq
inductive Wr where
 | t (i : Nat) (c : V)
 | b (i : Nat) (k : Option Blk)
def Wr.loc : Wr → Loc
 | .t i _ => .t i
 | .b i _ => .b i
def St.wr (st : St) : Wr → St
 | .t i c => st.setT i c
 | .b i (some k) => st.setB i k
 | .b i none => st.delB i
def St.app (st : St) (ws : List Wr) : St := ws.foldl St.wr st
def eqAt (a b : St) : Loc → Prop
 | .t i => a.t i = b.t i
 | .b i => a.b i = b.b i ∧ a.u i = b.u i
theorem St.ext' {a b : St} (hn : a.n = b.n) (h : ∀ l, eqAt a b l) : a = b := by
 cases a; cases b
 simp only at hn
 simp only [St.mk.injEq]
 exact ⟨hn, funext fun i => h (.t i), funext fun i => (h (.b i)).1, funext fun i => (h (.b i)).2⟩
theorem eqAt.trans {a b c : St} {l : Loc} (h : eqAt a b l) (k : eqAt b c l) : eqAt a c l := by
 cases l with
 | t i => exact Eq.trans (show a.t i = b.t i from h) k
 | b i => exact ⟨h.1.trans k.1, h.2.trans k.2⟩
theorem eqAt.symm {a b : St} {l : Loc} (h : eqAt a b l) : eqAt b a l := by
 cases l with
 | t i => exact Eq.symm (show a.t i = b.t i from h)
 | b i => exact ⟨h.1.symm, h.2.symm⟩
theorem eqAt.refl (a : St) (l : Loc) : eqAt a a l := by
 cases l with
 | t i => rfl
 | b i => exact ⟨rfl, rfl⟩
theorem wr_n (st : St) (x : Wr) : (st.wr x).n = st.n := by
 cases x with
 | t => rfl
 | b i k => cases k <;> rfl
theorem app_n (ws : List Wr) (st : St) : (st.app ws).n = st.n := by
 induction ws generalizing st with
 | nil => rfl
 | cons x ws ih => exact (ih (st.wr x)).trans (wr_n st x)
theorem wr_other (st : St) (x : Wr) {l : Loc} (h : x.loc ≠ l) : eqAt (st.wr x) st l := by
 cases x with
 | t i c =>
  cases l with
  | t j => show (if j = i then c else st.t j) = st.t j; rw [if_neg (fun e => h (by simp [Wr.loc, e]))]
  | b j => exact ⟨rfl, rfl⟩
 | b i k =>
  cases l with
  | t j => cases k <;> rfl
  | b j =>
   have hj : ¬ j = i := fun e => h (by simp [Wr.loc, e])
   cases k with
   | none => exact ⟨by show (if j = i then none else st.b j) = _; rw [if_neg hj], by show (if j = i then true else st.u j) = _; rw [if_neg hj]⟩
   | some k => exact ⟨by show (if j = i then some k else st.b j) = _; rw [if_neg hj], by show (if j = i then true else st.u j) = _; rw [if_neg hj]⟩
theorem wr_same (a b : St) (x : Wr) : eqAt (a.wr x) (b.wr x) x.loc := by
 cases x with
 | t i c => show (if i = i then c else a.t i) = (if i = i then c else b.t i); simp
 | b i k =>
  cases k with
  | none => exact ⟨by show (if i = i then none else a.b i) = (if i = i then none else b.b i); simp, by show (if i = i then true else a.u i) = (if i = i then true else b.u i); simp⟩
  | some k => exact ⟨by show (if i = i then some k else a.b i) = (if i = i then some k else b.b i); simp, by show (if i = i then true else a.u i) = (if i = i then true else b.u i); simp⟩
theorem wr_congr {a b : St} (x : Wr) {l : Loc} (h : eqAt a b l) : eqAt (a.wr x) (b.wr x) l := by
 by_cases hl : x.loc = l
 ·rw [← hl]; exact wr_same a b x
 ·exact (wr_other a x hl).trans (h.trans (wr_other b x hl).symm)
theorem app_congr (ws : List Wr) {a b : St} {l : Loc} (h : eqAt a b l) : eqAt (a.app ws) (b.app ws) l := by
 induction ws generalizing a b with
 | nil => exact h
 | cons x ws ih => exact ih (wr_congr x h)
theorem app_other (ws : List Wr) (st : St) {l : Loc} (h : ∀ x, x ∈ ws → x.loc ≠ l) : eqAt (st.app ws) st l := by
 induction ws generalizing st with
 | nil => exact eqAt.refl _ _
 | cons x ws ih => exact (ih (st.wr x) fun y hy => h y (by simp [hy])).trans (wr_other st x (h x (by simp)))
def apartW (ws : List Wr) (ls : List Loc) : Bool := ws.all fun x => !ls.contains x.loc
theorem apartW_spec {ws : List Wr} {ls : List Loc} (h : apartW ws ls = true) {l : Loc} (hl : l ∈ ls) : ∀ x, x ∈ ws → x.loc ≠ l := fun x hx e => by
 have := List.all_eq_true.1 h x hx
 rw [e] at this
 simp [hl] at this
theorem app_comm {w1 w2 : List Wr} (h : apartW w1 (w2.map Wr.loc) = true) (st : St) : (st.app w1).app w2 = (st.app w2).app w1 := by
 refine St.ext' (by simp [app_n]) fun l => ?_
 by_cases h2 : l ∈ w2.map Wr.loc
 ·have k1 : eqAt ((st.app w1).app w2) (st.app w2) l := app_congr w2 (app_other w1 st (apartW_spec h h2))
  exact k1.trans (app_other w1 _ (apartW_spec h h2)).symm
 ·have hw2 : ∀ x, x ∈ w2 → x.loc ≠ l := fun x hx e => h2 (List.mem_map.2 ⟨x, hx, e⟩)
  exact (app_other w2 _ hw2).trans (app_congr w1 (app_other w2 st hw2).symm)
def StepL (P : Program) (G : Nat → Option (List V)) (ops : Array Oper) (i : Nat) (st : St) (R : List Loc) (ws : List Wr) : Prop :=
 ∀ st2 : St, st2.n = st.n → (∀ l, l ∈ R → eqAt st st2 l) → StepV P G ops i st2 (st2.app ws)
abbrev Plan := List (List Loc × List Wr)
def Plan.ws (p : Plan) (i : Nat) : List Wr := (p.getD i ([], [])).2
def Plan.rs (p : Plan) (i : Nat) : List Loc := (p.getD i ([], [])).1
def Plan.st (p : Plan) (D : Nat → Bool) (st : St) : Nat → St
 | 0 => st
 | n + 1 => if D n then (Plan.st p D st n).app (p.ws n) else Plan.st p D st n
theorem Plan.st_n (p : Plan) (D : Nat → Bool) (st : St) : ∀ n, (p.st D st n).n = st.n
 | 0 => rfl
 | n + 1 => by
  simp only [Plan.st]
  split
  ·rw [app_n]; exact Plan.st_n p D st n
  ·exact Plan.st_n p D st n
theorem Plan.st_congr (p : Plan) {D E : Nat → Bool} (st : St) : ∀ n, (∀ j, j < n → D j = E j) → p.st D st n = p.st E st n
 | 0, _ => rfl
 | n + 1, h => by
  simp only [Plan.st]
  rw [h n (by omega), Plan.st_congr p st n (fun j hj => h j (by omega))]
theorem Plan.agree (p : Plan) (D : Nat → Bool) (st : St) (i : Nat) {l : Loc} : ∀ n, (∀ j, j < n → (j < i ↔ D j = true) ∨ ∀ x, x ∈ p.ws j → x.loc ≠ l) → eqAt (p.st (fun j => decide (j < i)) st n) (p.st D st n) l
 | 0, _ => eqAt.refl _ _
 | n + 1, h => by
  have ih := Plan.agree p D st i (l := l) n (fun j hj => h j (by omega))
  simp only [Plan.st]
  rcases h n (by omega) with hd | ho
  ·by_cases hn : n < i
   ·rw [if_pos (by simpa using hn), if_pos (hd.1 hn)]; exact app_congr _ ih
   ·rw [if_neg (by simpa using hn), if_neg (fun e => hn (hd.2 e))]; exact ih
  ·have k : ∀ s : St, eqAt (s.app (p.ws n)) s l := fun s => app_other _ _ ho
   split <;> split
   ·exact app_congr _ ih
   ·exact (k _).trans ih
   ·exact ih.trans (k _).symm
   ·exact ih
theorem Plan.insert (p : Plan) (D : Nat → Bool) (st : St) (i : Nat) (hi : D i = false) : ∀ n, i < n → (∀ j, i < j → j < n → D j = true → apartW (p.ws j) ((p.ws i).map Wr.loc) = true) →
  (p.st D st n).app (p.ws i) = p.st (fun j => D j || decide (j = i)) st n
 | 0, h, _ => by omega
 | n + 1, h, hc => by
  simp only [Plan.st]
  by_cases hn : i = n
  ·subst hn
   rw [if_neg (by rw [hi]; simp), if_pos (by simp)]
   congr 1
   exact Plan.st_congr p st i fun j hj => by simp; intro e; omega
  ·have ih := Plan.insert p D st i hi n (by omega) (fun j h1 h2 h3 => hc j h1 (by omega) h3)
   by_cases hd : D n = true
   ·rw [if_pos hd, if_pos (by simp [hd]), app_comm (hc n (by omega) (by omega) hd), ih]
   ·rw [if_neg hd, if_neg (by simp [hd]; omega)]; exact ih
def masks (ops : List Oper) : List Nat := ops.foldl (fun acc o => acc ++ [o.after.toList.foldl (fun s e => if Region.binds .any e then s ||| 2 ^ e.on ||| acc.getD e.on 0 else s) 0]) []
def Plan.ok (ops : Array Oper) (p : Plan) : Bool :=
 let ms := masks ops.toList
 (List.range ops.size).all fun i => (List.range i).all fun j =>
  (ms.getD i 0).testBit j || (apartW (p.ws j) (p.rs i) && apartW (p.ws i) (p.rs j) && apartW (p.ws i) ((p.ws j).map Wr.loc))
def Closed (ops : Array Oper) (D : Nat → Bool) : Prop := ∀ i o, D i = true → ops[i]? = some o → ∀ e, e ∈ o.after → Region.binds .any e = true → D e.on = true
theorem orFold {acc : List Nat} {j : Nat} : ∀ (es : List Edge) (s : Nat), (es.foldl (fun s e => if Region.binds .any e then s ||| 2 ^ e.on ||| acc.getD e.on 0 else s) s).testBit j = true →
  s.testBit j = true ∨ ∃ e, e ∈ es ∧ Region.binds .any e = true ∧ (e.on = j ∨ (acc.getD e.on 0).testBit j = true)
 | [], s, h => .inl h
 | e :: es, s, h => by
  simp only [List.foldl_cons] at h
  rcases orFold es _ h with h | ⟨e', he, hb, hx⟩
  ·split at h
   ·rename_i hb
    simp only [Nat.testBit_or, Bool.or_eq_true] at h
    rcases h with (h | h) | h
    ·exact .inl h
    ·refine .inr ⟨e, by simp, hb, .inl ?_⟩
     simpa [Nat.testBit_two_pow] using h
    ·exact .inr ⟨e, by simp, hb, .inr h⟩
   ·exact .inl h
  ·exact .inr ⟨e', by simp [he], hb, hx⟩
theorem masks_aux : ∀ (l : List Oper) (acc : List Nat) (done : List Oper), acc.length = done.length →
  (∀ (i : Nat) (o : Oper) (j : Nat), done[i]? = some o → (acc.getD i 0).testBit j = true → ∃ e, e ∈ o.after.toList ∧ Region.binds .any e = true ∧ (e.on = j ∨ (e.on < i ∧ (acc.getD e.on 0).testBit j = true))) →
  ∀ (i : Nat) (o : Oper) (j : Nat), (done ++ l)[i]? = some o →
   ((l.foldl (fun acc o => acc ++ [o.after.toList.foldl (fun s e => if Region.binds .any e then s ||| 2 ^ e.on ||| acc.getD e.on 0 else s) 0]) acc).getD i 0).testBit j = true →
   ∃ e, e ∈ o.after.toList ∧ Region.binds .any e = true ∧ (e.on = j ∨ (e.on < i ∧ ((l.foldl (fun acc o => acc ++ [o.after.toList.foldl (fun s e => if Region.binds .any e then s ||| 2 ^ e.on ||| acc.getD e.on 0 else s) 0]) acc).getD e.on 0).testBit j = true))
 | [], acc, done, _, h, i, o, j, ho, ht => by
  simp only [List.append_nil] at ho
  exact h i o j ho ht
 | x :: l, acc, done, hl, h, i, o, j, ho, ht => by
  have step := masks_aux l (acc ++ [x.after.toList.foldl (fun s e => if Region.binds .any e then s ||| 2 ^ e.on ||| acc.getD e.on 0 else s) 0]) (done ++ [x]) (by simp [hl]) ?_ i o j (by simpa using ho) ht
  ·exact step
  ·intro i o j ho ht
   by_cases hi : i < done.length
   ·rw [List.getElem?_append_left hi] at ho
    have e1 : ∀ k, k < acc.length → (acc ++ [x.after.toList.foldl (fun s e => if Region.binds .any e then s ||| 2 ^ e.on ||| acc.getD e.on 0 else s) 0]).getD k 0 = acc.getD k 0 := fun k hk => by
     simp [List.getD, List.getElem?_append_left hk]
    rw [e1 i (by omega)] at ht
    obtain ⟨e, he, hb, hx⟩ := h i o j ho ht
    refine ⟨e, he, hb, ?_⟩
    rcases hx with hx | ⟨h1, h2⟩
    ·exact .inl hx
    ·exact .inr ⟨h1, by rw [e1 _ (by omega)]; exact h2⟩
   ·have hi2 : i = done.length := by
     have := (List.getElem?_eq_some_iff.1 ho).1; simp at this; omega
    subst hi2
    have ho' : o = x := by simpa using ho.symm
    subst ho'
    have e2 : (acc ++ [o.after.toList.foldl (fun s e => if Region.binds .any e then s ||| 2 ^ e.on ||| acc.getD e.on 0 else s) 0]).getD done.length 0 = o.after.toList.foldl (fun s e => if Region.binds .any e then s ||| 2 ^ e.on ||| acc.getD e.on 0 else s) 0 := by
     simp [List.getD, ← hl]
    rw [e2] at ht
    rcases orFold _ _ ht with h0 | ⟨e, he, hb, hx⟩
    ·simp at h0
    ·refine ⟨e, he, hb, ?_⟩
     rcases hx with hx | hx
     ·exact .inl hx
     ·by_cases hlt : e.on < acc.length
      ·refine .inr ⟨by omega, ?_⟩
       simp only [List.getD] at hx ⊢
       rw [List.getElem?_append_left hlt]; exact hx
      ·simp [List.getD, List.getElem?_eq_none (Nat.le_of_not_lt hlt)] at hx
theorem masks_spec {ops : Array Oper} {i j : Nat} {o : Oper} (ho : ops[i]? = some o) (h : ((masks ops.toList).getD i 0).testBit j = true) :
  ∃ e, e ∈ o.after ∧ Region.binds .any e = true ∧ (e.on = j ∨ (e.on < i ∧ ((masks ops.toList).getD e.on 0).testBit j = true)) := by
 obtain ⟨e, he, hb, hx⟩ := masks_aux ops.toList [] [] rfl (fun i o j h => by simp at h) i o j (by simpa using ho) h
 exact ⟨e, by simpa using he, hb, hx⟩
theorem masks_closed {ops : Array Oper} {D : Nat → Bool} (hc : Closed ops D) (hin : ∀ i, D i = true → i < ops.size) {j : Nat} : ∀ (n i : Nat), i < n → ∀ o, ops[i]? = some o → (D i = true ∨ ∀ e, e ∈ o.after → Region.binds .any e = true → D e.on = true) →
  ((masks ops.toList).getD i 0).testBit j = true → D j = true
 | 0, i, h, _, _, _, _ => by omega
 | n + 1, i, hi, o, ho, hd, ht => by
  obtain ⟨e, he, hb, hx⟩ := masks_spec ho ht
  have hon : D e.on = true := by
   rcases hd with hd | hd
   ·exact hc i o hd ho e he hb
   ·exact hd e he hb
  rcases hx with rfl | ⟨h1, h2⟩
  ·exact hon
  ·have hs := hin _ hon
   exact masks_closed hc hin n e.on (by omega) ops[e.on] (Array.getElem?_eq_getElem hs) (.inl hon) h2
theorem wpAny_plan {P : Program} {G : Nat → Option (List V)} {ops : Array Oper} {st : St} {Q : Exit → St → Prop} {p : Plan} (hp : p.ok ops = true)
  (hback : ∀ i o, ops[i]? = some o → ∀ e, e ∈ o.after → Region.binds .any e = true → e.on < i)
  (hstep : ∀ i, i < ops.size → StepL P G ops i (p.st (fun j => decide (j < i)) st ops.size) (p.rs i) (p.ws i)) (hq : Q .normal (p.st (fun _ => true) st ops.size))
  {fx : Fx} {γ0 : Gh} {w0 : World} : ∀ (fuel : Nat) (D : Nat → Bool) (listed : Array Bool) (γ : Gh) (a : Act) (w : World), listed.size = ops.size → (∀ i, i < ops.size → listed.getD i true = D i ∧ listed.getD i false = D i) → (∀ i, D i = true → i < ops.size) → Closed ops D →
   ((List.range ops.size).filter fun i => !D i).length ≤ fuel → Sim G γ (p.st D st ops.size) a.tmps w → (Grow γ0 w0 γ w ∧ Pin γ0 st.b st.u γ (p.st D st ops.size).b (p.st D st ops.size).u) → a.defers = fx.ds →
   wpAnyIn (RF fx.ro) 0 P .any ops (Lift G fx γ0 st w0 Q) fuel listed a w := by
 have pair : ∀ i j, i < ops.size → j < i → ((masks ops.toList).getD i 0).testBit j = true ∨ (apartW (p.ws j) (p.rs i) = true ∧ apartW (p.ws i) (p.rs j) = true ∧ apartW (p.ws i) ((p.ws j).map Wr.loc) = true) := by
  intro i j hi hj
  unfold Plan.ok at hp
  have := List.all_eq_true.1 (List.all_eq_true.1 hp i (by simpa using hi)) j (by simpa using hj)
  simp only [Bool.or_eq_true, Bool.and_eq_true] at this
  rcases this with h | ⟨⟨h1, h2⟩, h3⟩
  ·exact .inl h
  ·exact .inr ⟨h1, h2, h3⟩
 have readyD : ∀ (D : Nat → Bool) (listed : Array Bool), (∀ i, i < ops.size → listed.getD i true = D i ∧ listed.getD i false = D i) → listed.size = ops.size → ∀ i, i ∈ Region.ready .any ops listed → i < ops.size ∧ D i = false ∧ ∀ o, ops[i]? = some o → ∀ e, e ∈ o.after → Region.binds .any e = true → D e.on = true := by
  intro D listed hl hsz i hi
  obtain ⟨h0, o, ho, hall⟩ := mem_ready.1 hi
  have hlt := (Array.getElem?_eq_some_iff.1 ho).1
  refine ⟨hlt, by rw [← (hl i hlt).1]; exact h0, fun o' ho' e he hb => ?_⟩
  rw [ho] at ho'; simp only [Option.some.injEq] at ho'; subst ho'
  have h1 := hall e he hb
  have hlt2 : e.on < ops.size := by
   rcases Nat.lt_or_ge e.on ops.size with h | h
   ·exact h
   ·rw [Array.getD_eq_getD_getElem?, Array.getElem?_eq_none (by omega)] at h1; simp at h1
  rw [← (hl e.on hlt2).2]; exact h1
 have none_ready : ∀ (D : Nat → Bool) (listed : Array Bool), (∀ i, i < ops.size → listed.getD i true = D i ∧ listed.getD i false = D i) → Region.ready .any ops listed = [] → ∀ i, i < ops.size → D i = true := by
  intro D listed hl hr i
  induction i using Nat.strongRecOn with
  | _ i ih =>
   intro hi
   cases hd : D i with
   | true => rfl
   | false =>
    exfalso
    have : i ∈ Region.ready .any ops listed := mem_ready.2 ⟨by rw [(hl i hi).1]; exact hd, ops[i], Array.getElem?_eq_getElem hi, fun e he hb => by
     have hb' := hback i _ (Array.getElem?_eq_getElem hi) e he hb
     rw [(hl e.on (by omega)).2]
     exact ih e.on hb' (by omega)⟩
    rw [hr] at this; simp at this
 have fin : ∀ (D : Nat → Bool) (γ : Gh) (a : Act) (w : World), (∀ i, i < ops.size → D i = true) → Sim G γ (p.st D st ops.size) a.tmps w → (Grow γ0 w0 γ w ∧ Pin γ0 st.b st.u γ (p.st D st ops.size).b (p.st D st ops.size).u) → a.defers = fx.ds → Lift G fx γ0 st w0 Q .normal a w := by
  intro D γ a w hall hs hg hd
  have e : p.st D st ops.size = p.st (fun _ => true) st ops.size := Plan.st_congr p st _ hall
  exact ⟨_, γ, hs, hg, .of hd, by rw [e]; exact hq⟩
 intro fuel
 induction fuel with
 | zero =>
  intro D listed γ a w hsz hl hin hc hf hs hg hd
  have hall : ∀ i, i < ops.size → D i = true := by
   intro i hi
   cases hdi : D i with
   | true => rfl
   | false =>
    exfalso
    have : i ∈ (List.range ops.size).filter fun i => !D i := List.mem_filter.2 ⟨by simpa using hi, by simp [hdi]⟩
    have h0 : (List.range ops.size).filter (fun i => !D i) = [] := List.length_eq_zero_iff.1 (by omega)
    rw [h0] at this; simp at this
  refine ⟨?_, fin D γ a w hall hs hg hd⟩
  refine List.eq_nil_iff_forall_not_mem.2 fun i hi => ?_
  obtain ⟨h1, h2, _⟩ := readyD D listed hl hsz i hi
  rw [hall i h1] at h2; simp at h2
 | succ fuel ih =>
  intro D listed γ a w hsz hl hin hc hf hs hg hd
  refine ⟨fun hr => fin D γ a w (none_ready D listed hl hr) hs hg hd, fun i hi => ?_⟩
  obtain ⟨hlt, hDi, hpre⟩ := readyD D listed hl hsz i hi
  have ho : ops[i]? = some ops[i] := Array.getElem?_eq_getElem hlt

  have hagree : ∀ l, l ∈ p.rs i → eqAt (p.st (fun j => decide (j < i)) st ops.size) (p.st D st ops.size) l := by
   intro l hlr
   refine Plan.agree p D st i ops.size fun j hj => ?_
   by_cases hji : j = i
   ·subst hji
    exact .inl ⟨fun h => by omega, fun h => by rw [hDi] at h; simp at h⟩
   ·by_cases hlt' : j < i
    ·rcases pair i j hlt hlt' with hm | ⟨h1, _, _⟩
     ·have hDj : D j = true := masks_closed hc hin (i + 1) i (by omega) _ ho (.inr (hpre _ ho)) hm
      exact .inl ⟨fun _ => hDj, fun _ => hlt'⟩
     ·exact .inr (apartW_spec h1 hlr)
    ·rcases pair j i hj (by omega) with hm | ⟨_, h2, _⟩
     ·refine .inl ⟨fun h => absurd h hlt', fun hDj => ?_⟩
      have hoj : ops[j]? = some ops[j] := Array.getElem?_eq_getElem hj
      have := masks_closed hc hin (j + 1) j (by omega) _ hoj (.inl hDj) hm
      rw [hDi] at this; simp at this
     ·exact .inr (apartW_spec h2 hlr)
  have hst := hstep i hlt (p.st D st ops.size) (by simp [Plan.st_n]) hagree
  have hins : (p.st D st ops.size).app (p.ws i) = p.st (fun j => D j || decide (j = i)) st ops.size := Plan.insert p D st i hDi ops.size hlt fun j h1 h2 h3 => by
   rcases pair j i h2 h1 with hm | ⟨_, _, h3'⟩
   ·exfalso
    have hoj : ops[j]? = some ops[j] := Array.getElem?_eq_getElem h2
    have := masks_closed hc hin (j + 1) j (by omega) _ hoj (.inl h3) hm
    rw [hDi] at this; simp at this
   ·exact h3'
  rw [hins] at hst
  have next : ∀ (a' : Act) (w' : World) (γ' : Gh), Sim G γ' (p.st (fun j => D j || decide (j = i)) st ops.size) a'.tmps w' → Grow γ w γ' w' → Pin γ (p.st D st ops.size).b (p.st D st ops.size).u γ' (p.st (fun j => D j || decide (j = i)) st ops.size).b (p.st (fun j => D j || decide (j = i)) st ops.size).u → a'.defers = fx.ds →
    wpAnyIn (RF fx.ro) 0 P .any ops (Lift G fx γ0 st w0 Q) fuel (listed.setIfInBounds i true) a' w' := by
   intro a' w' γ' hs' hg' hp' hd'
   refine ih (fun j => D j || decide (j = i)) (listed.setIfInBounds i true) γ' a' w' (by simpa using hsz) (fun j hj => ?_) (fun j hj => ?_) ?_ ?_ hs' ⟨hg.1.trans hg', hg.2.trans hp'⟩ hd'
   ·by_cases hji : j = i
    ·subst hji
     have : j < listed.size := by omega
     simp [this]
    ·have hne : i ≠ j := fun e => hji e.symm
     have e1 : (listed.setIfInBounds i true).getD j true = listed.getD j true := by simp [Array.getElem?_setIfInBounds_ne hne]
     have e2 : (listed.setIfInBounds i true).getD j false = listed.getD j false := by simp [Array.getElem?_setIfInBounds_ne hne]
     rw [e1, e2]
     simp only [hji, decide_false, Bool.or_false]
     exact hl j hj
   ·simp only [Bool.or_eq_true, decide_eq_true_eq] at hj
    rcases hj with hj | rfl
    ·exact hin j hj
    ·exact hlt
   ·intro k o hk hok e he hb
    simp only [Bool.or_eq_true, decide_eq_true_eq] at hk ⊢
    rcases hk with hk | rfl
    ·exact .inl (hc k o hk hok e he hb)
    ·exact .inl (hpre o hok e he hb)
   ·have hmem : i ∈ (List.range ops.size).filter fun j => !D j := List.mem_filter.2 ⟨by simpa using hlt, by simp [hDi]⟩
    have hlt3 : ((List.range ops.size).filter fun j => !(D j || decide (j = i))).length < ((List.range ops.size).filter fun j => !D j).length := by
     have e : (List.range ops.size).filter (fun j => !(D j || decide (j = i))) = ((List.range ops.size).filter (fun j => !D j)).filter (fun j => !decide (j = i)) := by
      rw [List.filter_filter]
      congr 1; funext j; simp [Bool.and_comm]
     rw [e]
     refine Nat.lt_of_le_of_ne (List.length_filter_le _ _) fun heq => ?_
     have := List.length_filter_eq_length_iff.1 heq i hmem
     simp at this
    omega
  unfold StepV at hst
  unfold wpOpIn
  rw [ho]
  rw [ho] at hst
  simp only at hst ⊢
  rcases hst with ⟨hgd, he⟩ | ⟨hgd, hdst, heq⟩
  ·rw [if_pos (guardV_spec hs hgd)]
   exact op_in (he ⟨none, a.defers, false⟩ γ a w hs rfl _ _ fun _ _ _ _ _ _ h => h) (he fx γ a w hs hd _ _ next)
  ·rw [if_neg (by rw [guardV_spec hs hgd]; simp)]
   refine ⟨fun _ _ => trivial, next _ w γ ?_ (.refl γ w) ?_ (by rw [put_defers]; exact hd)⟩
   ·rw [heq]; exact hs.put hdst (v := undef) (.tup [] [] rfl (fun i c v hc => by simp at hc))
   ·rw [heq]; cases ops[i].dst <;> exact Pin.refl hs.u
theorem TV.draw {P : Program} {G : Nat → Option (List V)} {ops : Array Oper} {id : Nat} {st : St} {Q : Exit → St → Prop} {p : Plan} (hm : P.follows .mixedOrders = true) (hp : p.ok ops = true)
  (hback : (ops.toList.zipIdx.all fun x => x.1.after.all fun e => !Region.binds .any e || decide (e.on < x.2)) = true)
  (hstep : ∀ i, i < ops.size → StepL P G ops i (p.st (fun j => decide (j < i)) st ops.size) (p.rs i) (p.ws i)) (hq : Q .normal (p.st (fun _ => true) st ops.size)) :
  TV P G (.region id ops true) st Q := fun fx γ a w hs hd => by
 have hs0 : Sim G γ st a.tmps { w with drawn := w.drawn + 1 } := by
  have g : Grow γ w γ { w with drawn := w.drawn + 1 } := ⟨rfl, rfl, rfl, Nat.le_refl _, fun _ _ _ _ h => h, fun _ _ => Nat.le_refl _, fun _ _ h => ⟨rfl, h, rfl⟩, fun _ cs _ _ h => ⟨cs, h, rfl⟩⟩
  have bl : BsLe γ st.b st.u γ st.b st.u := .refl hs.u
  refine ⟨hs.n, fun i => (hs.t i).mono g bl, fun b k hk => ?_, hs.u, hs.g.grow g, hs.o⟩
  rcases hs.b b k hk with h0 | hm | ⟨hM, B, o, cs, e', h1, h2, h3, h4, h5, h6, h7, h8⟩
  ·exact .inl h0
  ·exact .inr (.inl (hm.same rfl (fun B _ hB => ⟨hB, rfl⟩) fun c v hr => hr.mono g bl))
  ·refine .inr (.inr ⟨hM, B, o, cs, e', h1, h2, h3, h4, h5, fun i c hc => ?_, h7, h8⟩)
   obtain ⟨v, a1, a2, a3, a4⟩ := h6 i c hc
   exact ⟨v, a1, a2.mono g bl, a3, a4⟩
 have g0 : Grow γ w γ { w with drawn := w.drawn + 1 } := ⟨rfl, rfl, rfl, Nat.le_refl _, fun _ _ _ _ h => h, fun _ _ => Nat.le_refl _, fun _ _ h => ⟨rfl, h, rfl⟩, fun _ cs _ _ h => ⟨cs, h, rfl⟩⟩
 refine wpIn_region_any hm ?_
 have e0 : p.st (fun _ => false) st ops.size = st := by
  have : ∀ n, p.st (fun _ => false) st n = st := fun n => by
   induction n with
   | zero => rfl
   | succ n ih => simp [Plan.st, ih]
  exact this _
 refine wpAny_plan hp (fun i o ho e he hb => ?_) hstep hq ops.size (fun _ => false) _ γ a _ (by simp) (fun i hi => by simp [hi]) (fun i h => by simp at h) (fun i o h => by simp at h)
  (by have := List.length_filter_le (fun i : Nat => !false) (List.range ops.size); simpa using this) (by rw [e0]; exact hs0) ⟨g0, by rw [e0]; exact .refl hs.u⟩ hd.1
 have hm' : (o, i) ∈ ops.toList.zipIdx := by
  rw [List.mem_zipIdx_iff_getElem?]; simpa using ho
 have := List.all_eq_true.1 hback (o, i) hm'
 have h2 := Array.all_eq_true_iff_forall_mem.1 this e he
 simpa [hb] using h2
end Go.EV
