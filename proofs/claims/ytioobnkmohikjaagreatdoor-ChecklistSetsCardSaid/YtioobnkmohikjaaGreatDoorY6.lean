/- The value-level logic: local maps whose keys are integers, strings, bools or structs of such: how they are made, read and written. No conditions.
   The value-level logic: a range over a function: the iterator is walked with the function that ranges lying suspended, on one ghost; a call of yield is one round of the loop; triples for the iterator's code; no conditions.
   Guided execution: a piece of code by itself; a function's contract from a triple of its body in its own frame; no conditions but that the program follows Go's mixed orders.
   The value-level logic: all blocks renamed to outer names, and back; no conditions.
   The value-level logic: a slice told as data is compared with nil: both answers are gone through; no conditions.
   The value-level logic: rows of a local block written over in place: a part of a slice appended to its beginning, a part cleared; slices up to their capacity. No conditions.
   The value-level logic: slices made with their length; octets of a typed block as a text; no conditions but those that the rules name. -/
import Derived.Test.YtioobnkmohikjaaGreatDoorY5
import Derived.MapKept
import Derived.Test.YtioobnkmohikjaaGreatDoorY1
import Derived.RangeFuncNested
import Derived.Laws.MakeOwn
import Derived.KernelRfl
namespace Go.EV
open Go
def packV (agg : Bool) (l : List V) : V := match agg with
 | true => .agg l
 | false => l.headD .undef
def keyEq (P : Program) (t : TypeId) (xs ys : List V) : Option Bool :=
 match P.underlying t with
 | some (.int _) => match xs, ys with
  | [.int k a], [.int k' b] => if k = k' then some (a == b) else none
  | _, _ => none
 | some .string => match xs, ys with
  | [.str a], [.str b] => some (decide (a = b))
  | _, _ => none
 | some (.struct _) => eqDeepV P t xs ys
 | some (.array _ _) => eqArrV P t xs ys
 | _ => none
theorem keyEq_int {P : Program} {t : TypeId} {k : IntKind} (hu : P.underlying t = some (.int k)) {xs ys : List V} {q : Bool} (h : keyEq P t xs ys = some q) : ∃ k1 a b, xs = [.int k1 a] ∧ ys = [.int k1 b] ∧ q = (a == b) := by
 unfold keyEq at h
 rw [hu] at h
 simp only at h
 split at h
 ·split at h
  ·rename_i e
   simp only [Option.some.injEq] at h
   subst e
   exact ⟨_, _, _, rfl, rfl, h.symm⟩
  ·simp at h
 ·simp at h
theorem keyEq_str {P : Program} {t : TypeId} (hu : P.underlying t = some .string) {xs ys : List V} {q : Bool} (h : keyEq P t xs ys = some q) : ∃ a b, xs = [.str a] ∧ ys = [.str b] ∧ q = decide (a = b) := by
 unfold keyEq at h
 rw [hu] at h
 simp only at h
 split at h
 ·simp only [Option.some.injEq] at h
  exact ⟨_, _, rfl, rfl, h.symm⟩
 ·simp at h
def isAggK (P : Program) (t : TypeId) : Bool := match P.underlying t with
 | some (.struct _) => true
 | some (.array _ _) => true
 | _ => false
theorem isAggK_kind {P : Program} {t : TypeId} (h : isAggK P t = true) : (∃ fs, P.underlying t = some (.struct fs)) ∨ ∃ n e, P.underlying t = some (.array n e) := by
 unfold isAggK at h
 split at h
 ·rename_i fs hu; exact .inl ⟨fs, hu⟩
 ·rename_i n e hu; exact .inr ⟨n, e, hu⟩
 ·simp at h
theorem keyEq_kind {P : Program} {t : TypeId} {xs ys : List V} {q : Bool} (h : keyEq P t xs ys = some q) : (∃ k, P.underlying t = some (.int k)) ∨ P.underlying t = some .string ∨ isAggK P t = true := by
 unfold keyEq at h
 split at h
 ·rename_i k hu; exact .inl ⟨k, hu⟩
 ·rename_i hu; exact .inr (.inl hu)
 ·rename_i fs hu; exact .inr (.inr (by simp [isAggK, hu]))
 ·rename_i fs hu; exact .inr (.inr (by simp [isAggK, hu]))
 ·simp at h
theorem keyEq_flat {P : Program} {t : TypeId} {xs ys : List V} {q : Bool} (ha : isAggK P t = true) (h : keyEq P t xs ys = some q) : eqFlat xs ys = some q := by
 unfold keyEq at h
 rcases isAggK_kind ha with ⟨fs, hu⟩ | ⟨n, e, hu⟩
 ·rw [hu] at h
  simp only at h
  unfold eqDeepV at h
  rw [hu] at h
  simp only at h
  split at h
  ·exact h
  ·simp at h
 ·rw [hu] at h
  simp only at h
  unfold eqArrV at h
  rw [hu] at h
  simp only at h
  split at h
  ·exact h
  ·simp at h
theorem run_equal_agg {P : Program} {γ : Gh} {w : World} {bs : Nat → Option Blk} {u : Nat → Bool} {t : TypeId} {xs ys : List V} {r : Bool} (h : eqDeepV P t xs ys = some r)
  {x y : Value} (hx : Rep γ w bs u (.agg xs) x) (hy : Rep γ w bs u (.agg ys) y) : (Op.equal t x y).run P w = .ok r w := by
 unfold eqDeepV at h
 split at h
 ·rename_i fs hu
  split at h
  ·rename_i hc
   simp only [Bool.and_eq_true, Bool.not_eq_true'] at hc
   obtain ⟨⟨hf, hp⟩, hg⟩ := hc
   obtain ⟨vx, rfl, lx, cx⟩ := hx.agg_inv
   obtain ⟨vy, rfl, ly, cy⟩ := hy.agg_inv
   have hfo : P.fieldsOf t = fs := by simp [Program.fieldsOf, hu]
   show (Op.equalIn 10000 t (.agg vx.toArray) (.agg vy.toArray)).run P w = .ok r w
   rw [show (10000 : Nat) = 9999 + 1 from rfl, run_equalIn_struct w 9999 t _ _ (by rw [hfo]; exact hu) hp, hfo]
   refine run_eqDeep (γ := γ) (bs := bs) (u := u) 100 9999 _ _ fs.toList 0 xs ys r (by omega) hf h ?_ ?_
   ·intro i c hc
    obtain ⟨hlt, _⟩ := List.getElem?_eq_some_iff.1 hc
    have hv : vx[i]? = some (vx[i]'(by omega)) := List.getElem?_eq_getElem (by omega)
    exact ⟨_, by simp, cx i c _ hc hv⟩
   ·intro i c hc
    obtain ⟨hlt, _⟩ := List.getElem?_eq_some_iff.1 hc
    have hv : vy[i]? = some (vy[i]'(by omega)) := List.getElem?_eq_getElem (by omega)
    exact ⟨_, by simp, cy i c _ hc hv⟩
  ·simp at h
 ·simp at h
theorem run_equal_key {P : Program} {γ : Gh} {w : World} {bs : Nat → Option Blk} {u : Nat → Bool} {t : TypeId} {xs ys : List V} {r : Bool} (ha : isAggK P t = true) (h : keyEq P t xs ys = some r)
  {x y : Value} (hx : Rep γ w bs u (.agg xs) x) (hy : Rep γ w bs u (.agg ys) y) : (Op.equal t x y).run P w = .ok r w := by
 unfold keyEq at h
 rcases isAggK_kind ha with ⟨fs, hu⟩ | ⟨n, e, hu⟩
 ·rw [hu] at h
  exact run_equal_agg h hx hy
 ·rw [hu] at h
  exact run_equal_arr h hx hy
theorem run_checkDeep {P : Program} {γ : Gh} {w : World} {bs : Nat → Option Blk} {u : Nat → Bool} (em : Bool) :
  ∀ (n e : Nat) (xs : Array Value) (fs : List Field) (j : Nat) (cs : List V), n ≤ e → deepFields P n fs j cs = true → (∀ (i : Nat) (c : V), cs[i]? = some c → ∃ v, xs[j + i]? = some v ∧ Rep γ w bs u c v) →
   (forIn fs PUnit.unit (fun f _ => if f.name ≠ "_" then (do
     let c ← part f.type xs f.offset
     Instr.checkKey em e f.type c
     pure (ForInStep.yield PUnit.unit)) else pure (ForInStep.yield PUnit.unit)) : Sem PUnit).run P w = .ok PUnit.unit w
 | 0, _, _, _, _, _, _, hf, _ => by simp [deepFields] at hf
 | n + 1, 0, _, _, _, _, hn, _, _ => by omega
 | n + 1, e + 1, xs, [], j, cs, hn, hf, hx => by simp
 | n + 1, e + 1, xs, f :: fs, j, cs, hn, hf, hx => by
  simp only [deepFields, Bool.and_eq_true, beq_iff_eq, bne_iff_ne, ne_eq] at hf
  obtain ⟨⟨ho, hname⟩, hk⟩ := hf
  have shift : ∀ (m : Nat) (i : Nat) (c : V), (cs.drop m)[i]? = some c → ∃ v, xs[j + m + i]? = some v ∧ Rep γ w bs u c v := fun m i c hc => by
   rw [List.getElem?_drop] at hc
   have := hx (m + i) c hc
   rwa [show j + (m + i) = j + m + i by omega] at this
  have fin : ∀ (m : Nat) (x : Value), deepFields P n fs (j + m) (cs.drop m) = true → (part f.type xs f.offset).run P w = .ok x w → (Instr.checkKey em (e + 1) f.type x).run P w = .ok () w →
    (forIn (f :: fs) PUnit.unit (fun f _ => if f.name ≠ "_" then (do
     let c ← part f.type xs f.offset
     Instr.checkKey em (e + 1) f.type c
     pure (ForInStep.yield PUnit.unit)) else pure (ForInStep.yield PUnit.unit)) : Sem PUnit).run P w = .ok PUnit.unit w := by
   intro m x h1 h2 h3
   have ih := run_checkDeep em n (e + 1) xs fs (j + m) (cs.drop m) (by omega) h1 (shift m)
   simp only [List.forIn_cons, Sem.run_bind, ne_eq, hname, not_false_eq_true, if_true, h2, h3, Result.andThen_ok, Sem.run_pure]
   exact ih
  have part1 : ∀ {d : TypeDesc} (z : Value), P.underlying f.type = some d → (∀ q, d ≠ .struct q) → (∀ p q, d ≠ .array p q) → xs[j]? = some z → (part f.type xs f.offset).run P w = .ok z w := by
   intro d z hu h1 h2 hz
   cases d <;> first | exact absurd rfl (h1 _) | exact absurd rfl (h2 _ _) | simp [part, run_isAgg_of hu, ho, hz]
  split at hk
  ·rename_i gs hu
   split at hk
   rotate_left
   ·simp at hk
   rename_i i hi
   simp only [Bool.and_eq_true, Bool.not_eq_true', decide_eq_true_eq] at hk
   obtain ⟨⟨⟨_, hlen⟩, hin⟩, hrest⟩ := hk
   have px : (part f.type xs f.offset).run P w = .ok (.agg (xs.extract j (j + i.size))) w := by simp [part, run_isAgg_of hu, sizeOf, typeInfo, hi, ho]
   refine fin i.size _ hrest px ?_
   have inner := run_checkDeep (γ := γ) (w := w) (bs := bs) (u := u) em n e (xs.extract j (j + i.size)) gs.toList 0 (cs.take i.size) (by omega) hin fun q c hc => by
    rw [List.getElem?_take] at hc
    split at hc
    ·rename_i hq
     obtain ⟨v, h3, h4⟩ := hx q c hc
     refine ⟨v, ?_, h4⟩
     have hz := (Array.getElem?_eq_some_iff.1 h3).1
     rw [Nat.zero_add, Array.getElem?_extract]
     have : q < min (j + i.size) xs.size - j := by omega
     rw [if_pos this]; exact h3
    ·simp at hc
   rw [Instr.checkKey]
   simp only [Sem.run_bind, run_underlying hu, Result.andThen_ok]
   rw [← Array.forIn_toList]
   simp only [inner, Result.andThen_ok, Sem.run_pure]
  ·rename_i ik hu
   split at hk
   rotate_left
   ·simp at hk
   rename_i k a cs
   obtain ⟨x, h0, hxr⟩ := hx 0 _ rfl
   have := hxr.int_inv; subst this
   exact fin 1 _ hk (part1 _ hu (by simp) (by simp) h0) (by simp [Instr.checkKey, run_underlying hu])
  ·rename_i hu
   split at hk
   rotate_left
   ·simp at hk
   obtain ⟨x, h0, hxr⟩ := hx 0 _ rfl
   exact fin 1 _ hk (part1 _ hu (by simp) (by simp) h0) (by simp [Instr.checkKey, run_underlying hu])
  ·rename_i hu
   split at hk
   rotate_left
   ·simp at hk
   obtain ⟨x, h0, hxr⟩ := hx 0 _ rfl
   exact fin 1 _ hk (part1 _ hu (by simp) (by simp) h0) (by simp [Instr.checkKey, run_underlying hu])
  ·simp at hk
section
variable {P : Program} {γ : Gh} {w : World} {bs : Nat → Option Blk} {u : Nat → Bool}
theorem run_checkKeyV {t : TypeId} {xs : List V} (h : (keyEq P t xs xs).isSome = true) {v : Value} (hr : Rep γ w bs u (packV (isAggK P t) xs) v) (em : Bool) : (Instr.checkKey em 10000 t v).run P w = .ok () w := by
 obtain ⟨q, h⟩ := Option.isSome_iff_exists.1 h
 unfold keyEq at h
 split at h
 ·rename_i k hu
  have ha : isAggK P t = false := by simp [isAggK, hu]
  rw [ha] at hr
  split at h
  ·have := Rep.int_inv (hr : Rep γ w bs u (.int _ _) v); subst this
   exact (fun n => by simp [Instr.checkKey, run_underlying hu] : ∀ n, (Instr.checkKey em (n + 1) t _).run P w = .ok () w) 9999
  ·simp at h
 ·rename_i hu
  have ha : isAggK P t = false := by simp [isAggK, hu]
  rw [ha] at hr
  split at h
  ·have := Rep.str_inv (hr : Rep γ w bs u (.str _) v); subst this
   exact (fun n => by simp [Instr.checkKey, run_underlying hu] : ∀ n, (Instr.checkKey em (n + 1) t _).run P w = .ok () w) 9999
  ·simp at h
 ·rename_i fs hu
  have ha : isAggK P t = true := by simp [isAggK, hu]
  rw [ha] at hr
  obtain ⟨vs, rfl, lx, cx⟩ := (hr : Rep γ w bs u (.agg xs) v).agg_inv
  unfold eqDeepV at h
  rw [hu] at h
  simp only at h
  split at h
  ·rename_i hc
   simp only [Bool.and_eq_true, Bool.not_eq_true'] at hc
   rw [show (10000 : Nat) = 9999 + 1 from rfl, Instr.checkKey]
   simp only [Sem.run_bind, run_underlying hu, Result.andThen_ok]
   rw [← Array.forIn_toList]
   have key := run_checkDeep (γ := γ) (w := w) (bs := bs) (u := u) em 100 9999 vs.toArray fs.toList 0 xs (by omega) hc.1.1 fun i c hc => by
    have hlt := (List.getElem?_eq_some_iff.1 hc).1
    have hv : vs[i]? = some (vs[i]'(by omega)) := List.getElem?_eq_getElem (by omega)
    exact ⟨_, by simp, cx i c _ hc hv⟩
   simp only [key, Result.andThen_ok, Sem.run_pure]
  ·simp at h
 ·rename_i n e hu
  have ha : isAggK P t = true := by simp [isAggK, hu]
  rw [ha] at hr
  obtain ⟨vs, rfl, lx, cx⟩ := (hr : Rep γ w bs u (.agg xs) v).agg_inv
  unfold eqArrV at h
  rw [hu] at h
  simp only at h
  split at h
  ·rename_i hc
   simp only [Bool.and_eq_true, Bool.not_eq_true', decide_eq_true_eq] at hc
   obtain ⟨⟨⟨⟨hn, hf⟩, h1⟩, hi⟩, hg⟩ := hc
   obtain ⟨i, hi⟩ := Option.isSome_iff_exists.1 hi
   rw [show (10000 : Nat) = 9998 + 1 + 1 from rfl, Instr.checkKey]
   simp only [Sem.run_bind, run_underlying hu, Result.andThen_ok]
   simp only [Std.Legacy.Range.forIn_eq_forIn_range', Std.Legacy.Range.size, Nat.sub_zero, Nat.add_one_sub_one, Nat.div_one]
   have key := run_checkItems (P := P) (w := w) em 9998 e vs.toArray hi h1 xs 0 hf (by simp [lx])
   rw [hn] at key
   simp only [key, Result.andThen_ok, Sem.run_pure]
  ·simp at h
 ·simp at h
def firstAt : List Bool → List MapEntry → Nat → Option (Nat × Value)
 | q :: qs, e :: es, i => match q with
  | true => some (i, e.val)
  | false => firstAt qs es (i + 1)
 | _, _, _ => none
theorem firstAt_idx {α : Type} (p : α → Bool) : ∀ (l : List α) (es : List MapEntry) (i : Nat), es.length = l.length →
  firstAt (l.map p) es i = match l.findIdx? p with | some j => (es[j]?).map fun e => (i + j, e.val) | none => none
 | [], [], i, _ => rfl
 | [], e :: es, i, h => by simp at h
 | x :: l, [], i, h => by simp at h
 | x :: l, e :: es, i, h => by
  simp only [List.map_cons, firstAt, List.findIdx?_cons]
  cases hp : p x with
  | true => simp
  | false =>
   simp only [Bool.false_eq_true, if_false]
   rw [firstAt_idx p l es (i + 1) (by simpa using h)]
   cases l.findIdx? p with
   | none => rfl
   | some j => simp [Nat.add_assoc, Nat.add_comm 1 j]
theorem run_findKeyV {t : TypeId} {xs : List V} {kv : Value} (hk : Rep γ w bs u (packV (isAggK P t) xs) kv) (es : List MapEntry) (qs : List Bool)
  (hl : qs.length = es.length) (h : ∀ (j : Nat) (e : MapEntry), es[j]? = some e → ∃ q ys, qs[j]? = some q ∧ keyEq P t xs ys = some q ∧ Rep γ w bs u (packV (isAggK P t) ys) e.key) (hs : (keyEq P t xs xs).isSome = true) :
  (Instr.findKey t kv es).run P w = .ok (firstAt qs es 0) w := by
 obtain ⟨q0, hs⟩ := Option.isSome_iff_exists.1 hs
 have now : ∀ d, P.underlying t = some d → (∀ (j : Nat) (e : MapEntry), es[j]? = some e → ∃ q, qs[j]? = some q ∧ Instr.sameNow d kv e.key = some q) → (Instr.findKey t kv es).run P w = .ok (firstAt qs es 0) w := fun d hu hq => by
  refine MapKept.run_findKey hu ?_
  have gen : ∀ (es : List MapEntry) (qs : List Bool) (i : Nat), qs.length = es.length → (∀ (j : Nat) (e : MapEntry), es[j]? = some e → ∃ q, qs[j]? = some q ∧ Instr.sameNow d kv e.key = some q) → Instr.findNow d kv es i = some (firstAt qs es i) := by
   intro es
   induction es with
   | nil => intro qs i hl _; cases qs with | nil => rfl | cons => simp at hl
   | cons e es ih =>
    intro qs i hl hq
    cases qs with
    | nil => simp at hl
    | cons q qs =>
     obtain ⟨q', h1, h2⟩ := hq 0 e rfl
     simp only [List.getElem?_cons_zero, Option.some.injEq] at h1
     subst h1
     simp only [Instr.findNow, h2, firstAt]
     cases q with
     | true => rfl
     | false => exact ih qs (i + 1) (by simpa using hl) fun j e' he => by simpa using hq (j + 1) e' (by simpa using he)
  exact gen es qs 0 hl hq
 rcases keyEq_kind hs with ⟨k, hu⟩ | hu | ha
 ·have ha : isAggK P t = false := by simp [isAggK, hu]
  rw [ha] at hk
  obtain ⟨k1, a, _, rfl, _⟩ := keyEq_int hu hs
  have := Rep.int_inv (hk : Rep γ w bs u (.int k1 a) kv); subst this
  refine now _ hu fun j e he => ?_
  obtain ⟨q, ys, h1, h2, h3⟩ := h j e he
  refine ⟨q, h1, ?_⟩
  obtain ⟨k2, a2, b2, e1, rfl, rfl⟩ := keyEq_int hu h2
  simp only [List.cons.injEq, V.int.injEq, and_true] at e1
  obtain ⟨rfl, rfl⟩ := e1
  rw [ha] at h3
  rw [Rep.int_inv (h3 : Rep γ w bs u (.int k1 b2) e.key)]
  simp [Instr.sameNow]
 ·have ha : isAggK P t = false := by simp [isAggK, hu]
  rw [ha] at hk
  obtain ⟨a, _, rfl, _⟩ := keyEq_str hu hs
  have := Rep.str_inv (hk : Rep γ w bs u (.str a) kv); subst this
  refine now _ hu fun j e he => ?_
  obtain ⟨q, ys, h1, h2, h3⟩ := h j e he
  refine ⟨q, h1, ?_⟩
  obtain ⟨a2, b2, e1, rfl, rfl⟩ := keyEq_str hu h2
  simp only [List.cons.injEq, V.str.injEq, and_true] at e1
  subst e1
  rw [ha] at h3
  rw [Rep.str_inv (h3 : Rep γ w bs u (.str b2) e.key)]
  simp only [Instr.sameNow, Option.some.injEq]
  exact Bool.eq_iff_iff.2 (by rw [MapKept.bytes_beq]; simp)
 ·rw [ha] at hk
  have e1 : (Instr.findKey t kv es).run P w = (Instr.findAsking t kv es).run P w := by
   rcases isAggK_kind ha with ⟨fs, hu⟩ | ⟨n, e, hu⟩
   ·cases es with
    | nil => simp [Instr.findKey, run_underlying hu, Instr.findNow, Instr.findAsking]
    | cons e es => simp [Instr.findKey, run_underlying hu, Instr.findNow, Instr.sameNow]
   ·cases es with
    | nil => simp [Instr.findKey, run_underlying hu, Instr.findNow, Instr.findAsking]
    | cons e es => simp [Instr.findKey, run_underlying hu, Instr.findNow, Instr.sameNow]
  rw [e1]
  have gen : ∀ (es : List MapEntry) (qs : List Bool) (i : Nat), qs.length = es.length → (∀ (j : Nat) (e : MapEntry), es[j]? = some e → ∃ q, qs[j]? = some q ∧ (Op.equal t kv e.key).run P w = .ok q w) → (Instr.findAsking t kv es i).run P w = .ok (firstAt qs es i) w := by
   intro es
   induction es with
   | nil => intro qs i hl _; cases qs with | nil => rfl | cons => simp at hl
   | cons e es ih =>
    intro qs i hl hq
    cases qs with
    | nil => simp at hl
    | cons q qs =>
     obtain ⟨q', h1, h2⟩ := hq 0 e rfl
     simp only [List.getElem?_cons_zero, Option.some.injEq] at h1
     subst h1
     simp only [Instr.findAsking, Sem.run_bind, h2, Result.andThen_ok, firstAt]
     cases q with
     | true => simp
     | false => simpa using ih qs (i + 1) (by simpa using hl) fun j e' he => by simpa using hq (j + 1) e' (by simpa using he)
  refine gen es qs 0 hl fun j e he => ?_
  obtain ⟨q, ys, h1, h2, h3⟩ := h j e he
  refine ⟨q, h1, ?_⟩
  rw [ha] at h3
  exact run_equal_key ha h2 hk h3
end
theorem Sim.newMap {G : Nat → Option (List V)} {γ : Gh} {st : St} {tmps : Array Value} {w : World} (h : Sim G γ st tmps w) {d z : Nat} (hM : MAPS ≤ z) (hu : st.u d = false) :
  Sim G (γ.add d w.heap.size) (st.setB d ⟨z, true, []⟩) tmps (w.alloc (.map #[] 0)) ∧ Grow γ w (γ.add d w.heap.size) (w.alloc (.map #[] 0)) ∧
   BsLe γ st.b st.u (γ.add d w.heap.size) (st.setB d ⟨z, true, []⟩).b (st.setB d ⟨z, true, []⟩).u := by
 have hh : (w.alloc (.map #[] 0)).heap = w.heap.push (.map #[] 0) := rfl
 have g := Grow.push (γ := γ) (w1 := w.alloc (.map #[] 0)) hh ⟨rfl, rfl, rfl⟩ d
 have bl : BsLe γ st.b st.u (γ.add d w.heap.size) (st.setB d ⟨z, true, []⟩).b (st.setB d ⟨z, true, []⟩).u := h.bsLe_new hu fun b hb => by simp only [Gh.add]; rw [if_neg hb]
 refine ⟨⟨h.n, fun i => (h.t i).mono g bl, fun b k hk => ?_, fun b k hk => ?_, h.g.grow g, fun B x hx => ?_⟩, g, bl⟩
 ·simp only [St.setB] at hk
  by_cases hb : b = d
  ·subst hb
   rw [if_pos rfl] at hk
   simp only [Option.some.injEq] at hk; subst hk
   refine .inr (.inl ⟨hM, w.heap.size, #[], 0, by simp [Gh.add], by simp [Gh.add], by rw [hh]; simp, rfl, fun r hr => by simp at hr, ⟨fun e he => by simp at he, by simp, fun e he => by simp at he⟩, fun i c hc => by simp at hc⟩)
  ·rw [if_neg hb] at hk
   have hlt : ∀ B x, γ.own B = some x → B < w.heap.size ∧ B ≠ w.heap.size := fun B x hx => by have := h.o B x hx; omega
   rcases h.b b k hk with ⟨v1, v2⟩ | hm | ⟨hM2, B, o, cs', e', h1, h2, h3, h4, h5, h6, h7, h8⟩
   ·exact .inl ⟨by simp only [Gh.add]; rw [if_neg hb]; exact v1, v2⟩
   ·exact .inr (.inl (hm.same (by simp only [Gh.add]; rw [if_neg hb]) (fun B _ hB => ⟨by simp only [Gh.add]; rw [if_neg (hlt B _ hB).2]; exact hB, heap_push_lt hh (hlt B _ hB).1⟩) fun c v hr => hr.mono g bl))
   ·have hne := (hlt B _ h2).2
    refine .inr (.inr ⟨hM2, B, o, cs', e', by simp only [Gh.add]; rw [if_neg hb]; exact h1, by simp only [Gh.add]; rw [if_neg hne]; exact h2, by rw [heap_push_lt hh (hlt B _ h2).1]; exact h3, h4, h5, fun i c hc => ?_,
     by simp only [Gh.add]; rw [if_neg hne]; exact h7, by simp only [Gh.add]; rw [if_neg hne]; exact h8⟩)
    obtain ⟨v, a1, a2, a3, a4⟩ := h6 i c hc
    refine ⟨v, a1, a2.mono g bl, a3, ?_⟩
    replace a4 := a4.grow g
    unfold Right at a4 ⊢
    split at a4
    ·rcases a4 with a4 | a4
     ·exact .inl a4
     refine .inr ?_
     have hab := (hlt _ _ a4.1.1).2
     simp only [Gh.add]; rw [if_neg hab, if_neg hab]; exact a4
    ·trivial
 ·simp only [St.setB] at hk ⊢
  by_cases hb : b = d
  ·subst hb; simp
  ·rw [if_neg hb] at hk; rw [if_neg hb]; exact h.u b k hk
 ·simp only [Gh.add] at hx
  rw [hh]; simp only [Array.size_push]
  split at hx
  ·omega
  ·have := h.o B x hx; omega
theorem Grow.putMap {γ : Gh} {w : World} {B clock clock' : Nat} {es es' : Array MapEntry} {x : Owner} (hheap : w.heap[B]? = some (.map es clock)) (hown : γ.own B = some x) : Grow γ w γ (w.putObj B (.map es' clock')) where
 os := rfl
 tape := rfl
 output := rfl
 size := by simp
 imm := fun B' o v _ hc => by
  have hne : B' ≠ B := fun e => by
   subst e
   obtain ⟨cs, e, fz, h⟩ := cellAt_block hc
   rw [hheap] at h; simp at h
  unfold cellAt World.cell? at hc ⊢
  rw [World.putObj_heap_other hne]; exact hc
 lim := fun _ _ => Nat.le_refl _
 free := fun B' _ ho => ⟨World.putObj_heap_other fun e => by subst e; rw [hown] at ho; simp at ho, ho, rfl⟩
 room := fun B' cs e fz hc => ⟨cs, by
  have hne : B' ≠ B := fun e => by subst e; rw [hheap] at hc; simp at hc
  rw [World.putObj_heap_other hne]; exact hc, rfl⟩
theorem Sim.putMap {G : Nat → Option (List V)} {γ : Gh} {st : St} {tmps : Array Value} {w : World} (h : Sim G γ st tmps w) {b : Nat} {k : Blk} (hk : st.b b = some k) {B clock clock' : Nat} {es es' : Array MapEntry} {rows' : List (List V)}
  (hM : MAPS ≤ k.size) (hloc : γ.loc b = some (B, 0)) (hown : γ.own B = some (.blk b)) (hheap : w.heap[B]? = some (.map es clock)) (hn : es'.size = rows'.length)
  (hz : ∀ r, r ∈ rows' → r.length = mwd k.size) (hes : EsOk k.size es' ∧ Born es' clock')
  (hc : ∀ (i : Nat) (c : V), rows'.flatten[i]? = some c → ∃ v, (es'.toList.flatMap (mcells k.size))[i]? = some v ∧ Rep γ w st.b st.u c v ∧ v.oneCell' = true) :
  Sim G γ (st.setB b ⟨k.size, k.excl, rows'⟩) tmps (w.putObj B (.map es' clock')) ∧ Grow γ w γ (w.putObj B (.map es' clock')) ∧ BsLe γ st.b st.u γ (st.setB b ⟨k.size, k.excl, rows'⟩).b (st.setB b ⟨k.size, k.excl, rows'⟩).u := by
 have g : Grow γ w γ (w.putObj B (.map es' clock')) := Grow.putMap hheap hown
 have hB : B < w.heap.size := h.o B _ hown
 have bl : BsLe γ st.b st.u γ (st.setB b ⟨k.size, k.excl, rows'⟩).b (st.setB b ⟨k.size, k.excl, rows'⟩).u := by
  refine ⟨fun b' hb => by simp only [St.setB]; split <;> simp_all, fun b' hb hn => ?_, fun b' k' hk' => ?_⟩
  ·have : b' ≠ b := fun e => by subst e; rw [hk] at hn; simp at hn
   simp only [St.setB]; rw [if_neg this]; exact hn
  ·by_cases hb : b' = b
   ·subst hb
    rw [hk] at hk'; simp only [Option.some.injEq] at hk'; subst hk'
    exact ⟨by simp [St.setB], .inr ⟨⟨k.size, k.excl, rows'⟩, by simp [St.setB], rfl, fun hs => absurd hs (Nat.not_lt_of_le hM), rfl⟩⟩
   ·exact ⟨by simp only [St.setB]; rw [if_neg hb]; exact h.u b' k' hk', .inr ⟨k', by simp only [St.setB]; rw [if_neg hb]; exact hk', rfl, fun _ => rfl, rfl⟩⟩
 refine ⟨⟨h.n, fun i => (h.t i).mono g bl, fun b' k' hk' => ?_, fun b' k' hk' => ?_, h.g.grow g, fun B' x hx => by simpa using h.o B' x hx⟩, g, bl⟩
 ·simp only [St.setB] at hk'
  by_cases hb : b' = b
  ·subst hb
   rw [if_pos rfl] at hk'
   simp only [Option.some.injEq] at hk'; subst hk'
   refine .inr (.inl ⟨hM, B, es', clock', hloc, hown, World.putObj_heap_same hB, hn, hz, hes, fun i c hi => ?_⟩)
   obtain ⟨v, h1, h2, h3⟩ := hc i c hi
   exact ⟨v, h1, h2.mono g bl, h3⟩
  ·rw [if_neg hb] at hk'
   have hne : ∀ B2, γ.own B2 = some (.blk b') → B2 ≠ B := fun B2 h2 e => by subst e; rw [hown] at h2; simp only [Option.some.injEq, Owner.blk.injEq] at h2; exact hb h2.symm
   rcases h.b b' k' hk' with ⟨v1, v2⟩ | hm | ⟨hM2, B2, o2, cs2, e2, h1, h2, h3, h4, h5, h6, h7, h8⟩
   ·exact .inl ⟨v1, v2⟩
   ·exact .inr (.inl (hm.same rfl (fun B2 _ hB2 => ⟨hB2, World.putObj_heap_other (hne B2 hB2)⟩) fun c v hr => hr.mono g bl))
   refine .inr (.inr ⟨hM2, B2, o2, cs2, e2, h1, h2, by rw [World.putObj_heap_other (hne B2 h2)]; exact h3, h4, h5, fun i c hc => ?_, h7, h8⟩)
   obtain ⟨v, a1, a2, a3, a4⟩ := h6 i c hc
   exact ⟨v, a1, a2.mono g bl, a3, a4.grow g⟩
 ·simp only [St.setB] at hk' ⊢
  by_cases hb : b' = b
  ·subst hb; simp
  ·rw [if_neg hb] at hk'; rw [if_neg hb]; exact h.u b' k' hk'
theorem mcells_len {z : Nat} {es : Array MapEntry} (h : EsOk z es) {e : MapEntry} (he : e ∈ es) : (mcells z e).length = mwd z := by
 obtain ⟨h1, _, h3, _⟩ := h e he
 simp [mcells, h1, h3, mwd]
theorem flatMap_get {z : Nat} {es : Array MapEntry} (h : EsOk z es) (i j : Nat) (hj : j < mwd z) : (es.toList.flatMap (mcells z))[i * mwd z + j]? = (es[i]?).bind fun e => (mcells z e)[j]? := by
 rw [List.flatMap_def]
 have gen : ∀ (rows : List (List Value)), (∀ r, r ∈ rows → r.length = mwd z) → ∀ i, rows.flatten[i * mwd z + j]? = (rows[i]?).bind (·[j]?) := by
  intro rows
  induction rows with
  | nil => intro _ i; simp
  | cons r rows ih =>
   intro hr i
   have hl := hr r (by simp)
   cases i with
   | zero => simp [List.getElem?_append_left (show j < r.length by omega)]
   | succ i =>
    rw [List.flatten_cons, List.getElem?_append_right (by rw [hl, Nat.add_mul]; omega), hl, show (i + 1) * mwd z + j - mwd z = i * mwd z + j by rw [Nat.add_mul]; omega, ih (fun q hq => hr q (by simp [hq])) i]
    simp
 rw [gen _ (fun r hr => by obtain ⟨e, he, rfl⟩ := List.mem_map.1 hr; exact mcells_len h (by simpa using he))]
 rw [List.getElem?_map, Array.getElem?_toList]
 cases es[i]? <;> rfl
theorem MapAt.row {γ : Gh} {w : World} {bs : Nat → Option Blk} {u : Nat → Bool} {z : Nat} {es : Array MapEntry} {rows : List (List V)} (hlen : es.size = rows.length) (hz : ∀ r, r ∈ rows → r.length = mwd z) (hes : EsOk z es)
  (hc : ∀ (i : Nat) (c : V), rows.flatten[i]? = some c → ∃ v, (es.toList.flatMap (mcells z))[i]? = some v ∧ Rep γ w bs u c v ∧ v.oneCell' = true) {i : Nat} {r : List V} (hr : rows[i]? = some r) :
  ∃ e, es[i]? = some e ∧ Rep γ w bs u (packV (mka z) (r.take (mkn z))) e.key ∧ Rep γ w bs u (packV (mva z) (r.drop (mkn z))) e.val := by
 have hi : i < es.size := by rw [hlen]; exact (List.getElem?_eq_some_iff.1 hr).1
 have he : es[i]? = some es[i] := Array.getElem?_eq_getElem hi
 have hrl := hz r (List.mem_of_getElem? hr)
 obtain ⟨k1, k2, k3, k4⟩ := hes es[i] (Array.getElem_mem hi)
 have cell : ∀ (j : Nat) (c : V), r[j]? = some c → ∃ v, (mcells z es[i])[j]? = some v ∧ Rep γ w bs u c v := fun j c hj => by
  have hjl : j < mwd z := by rw [← hrl]; exact (List.getElem?_eq_some_iff.1 hj).1
  obtain ⟨v, v1, v2, _⟩ := hc (i * mwd z + j) c (by rw [flatten_get rows hz i j hjl, hr]; exact hj)
  rw [flatMap_get hes i j hjl, he] at v1
  exact ⟨v, v1, v2⟩
 have pack : ∀ (a : Bool) (l : List V) (v : Value), packW a (unpackW a v) = v → (unpackW a v).length = l.length → (∀ (j : Nat) (c : V), l[j]? = some c → ∃ x, (unpackW a v)[j]? = some x ∧ Rep γ w bs u c x) → Rep γ w bs u (packV a l) v := fun a l v hp hl hx => by
  cases a with
  | true =>
   have hv : v = .agg (unpackW true v).toArray := hp.symm
   rw [hv]
   refine .agg l _ hl fun j c x hj hxj => ?_
   obtain ⟨y, y1, y2⟩ := hx j c hj
   rw [y1] at hxj
   simp only [Option.some.injEq] at hxj
   subst hxj; exact y2
  | false =>
   cases l with
   | nil => simp [unpackW] at hl
   | cons c l =>
    obtain ⟨y, y1, y2⟩ := hx 0 c rfl
    simp only [unpackW, List.getElem?_cons_zero, Option.some.injEq] at y1
    subst y1
    exact y2
 refine ⟨es[i], he, pack _ _ _ k2 (by rw [k1, List.length_take, hrl]; simp only [mwd]; omega) (fun j c hj => ?_), pack _ _ _ k4 (by rw [k3, List.length_drop, hrl]; simp only [mwd]; omega) (fun j c hj => ?_)⟩
 ·rw [List.getElem?_take] at hj
  split at hj
  ·rename_i hlt
   obtain ⟨v, v1, v2⟩ := cell j c hj
   refine ⟨v, ?_, v2⟩
   rw [mcells, List.getElem?_append_left (by omega)] at v1
   exact v1
  ·simp at hj
 ·rw [List.getElem?_drop] at hj
  obtain ⟨v, v1, v2⟩ := cell _ c hj
  refine ⟨v, ?_, v2⟩
  rw [mcells, List.getElem?_append_right (by omega), k1, Nat.add_sub_cancel_left] at v1
  exact v1
def mlook {α β : Type} (l : List α) (p : α → Bool) (f : α → β) (z : β) : β := match l.findIdx? p with
 | some j => match l[j]? with
  | some x => f x
  | none => z
 | none => z
def mput {α : Type} (l : List α) (p : α → Bool) (y : α) : List α := match l.findIdx? p with
 | some j => l.set j y
 | none => l ++ [y]
theorem mlook_map {α β γ : Type} (l : List α) (p : α → Bool) (f : α → β) (z : β) (g : β → γ) : mlook l p (fun x => g (f x)) (g z) = g (mlook l p f z) := by
 unfold mlook
 cases l.findIdx? p with
 | none => rfl
 | some j => cases h : l[j]? <;> simp [h]
def zeroPack (P : Program) (t : TypeId) : Option V := match P.info? t with
 | some i => match i.zero with
  | some (.agg a) => (a.toList.mapM ofVal).map .agg
  | some v => ofVal v
  | none => none
 | none => none
theorem run_zeroPack {P : Program} {γ : Gh} {w : World} {bs : Nat → Option Blk} {u : Nat → Bool} {t : TypeId} {c : V} (h : zeroPack P t = some c) : ∃ v, (zeroValue t).run P w = .ok v w ∧ Rep γ w bs u c v := by
 unfold zeroPack at h
 split at h
 ·rename_i i hi
  split at h
  ·rename_i a hz
   obtain ⟨l, h1, rfl⟩ := Option.map_eq_some_iff.1 h
   have := mapM_ofVal (γ := γ) (w := w) (bs := bs) (u := u) h1
   refine ⟨.agg a, by simp [zeroValue, typeInfo, hi, hz], ?_⟩
   have e : (.agg a : Value) = .agg a.toList.toArray := by simp
   rw [e]
   exact .agg l _ (by have := this.1; simpa using this) fun j c v hc hv => this.2 j c v hc (by simpa using hv)
  ·rename_i v _ hz
   exact ⟨v, by simp [zeroValue, typeInfo, hi, hz], .data (ofVal_rep h)⟩
  ·simp at h
 ·simp at h
section
variable {P : Program} {G : Nat → Option (List V)}
def Rule.makeMap (t : TypeId) (d z : Nat) (hz : MAPS ≤ z) : Rule P G Unit where
 op := .makeMap t none
 dst := some d
 vals := []
 blks := []
 o := some ()
 ws := fun _ => [.b d (some ⟨z, true, []⟩), .t d (.mp d)]
 dt := []
 dat := fun _ _ _ _ h => by simp at h
 ok := fun _ _ x st hop hdst _ _ hd => effO_value fun γ a w hs => by
  obtain ⟨h1, h2⟩ := hd d rfl
  have key := hs.newMap hz h2
  refine ⟨.map (some w.heap.size), w.alloc (.map #[] 0), γ.add d w.heap.size, by simp [execOp, hop, Instr.makeMap], key.2.1, key.2.2.pin, ?_⟩
  have := key.1.put (a := a) (dst := some d) (c := .mp d) (v := .map (some w.heap.size)) (by simpa [dstOk, St.setB] using h1) (.mp d w.heap.size ⟨z, true, []⟩ (by simp [St.setB]) (by simp [Gh.add]) hz)
  rw [hdst]
  exact this
structure MapW (P : Program) (mt kt et : TypeId) (z : Nat) {α : Type} (ty : Ty α) (p : α → Bool) (kc : List V) : Prop where
 m : P.underlying mt = some (.map kt et)
 a : mka z = isAggK P kt
 s : (keyEq P kt kc kc).isSome = true
 q : ∀ x, keyEq P kt kc ((ty.c x).take (mkn z)) = some (p x)
theorem MapW.find {mt kt et : TypeId} {z : Nat} {α : Type} {ty : Ty α} {p : α → Bool} {kc : List V} (h : MapW P mt kt et z ty p kc) {γ : Gh} {w : World} {bs : Nat → Option Blk} {u : Nat → Bool} {b : Nat} {excl : Bool} {l : List α} {kv : Value} {B : Nat}
  (hb : BlkOk γ w bs u b ⟨z, excl, l.map ty.c⟩) (hl : γ.loc b = some (B, 0)) (hM : MAPS ≤ z) (hk : Rep γ w bs u (packV (isAggK P kt) kc) kv) :
  ∃ es clock, w.heap[B]? = some (.map es clock) ∧ γ.own B = some (.blk b) ∧ (EsOk z es ∧ Born es clock) ∧ es.size = l.length ∧ (∀ r, r ∈ l.map ty.c → r.length = mwd z) ∧
   (∀ (i : Nat) (c : V), (l.map ty.c).flatten[i]? = some c → ∃ v, (es.toList.flatMap (mcells z))[i]? = some v ∧ Rep γ w bs u c v ∧ v.oneCell' = true) ∧
   (∀ em, (Instr.checkKey em 10000 kt kv).run P w = .ok () w) ∧
   (Instr.findKey kt kv es.toList).run P w = .ok (match l.findIdx? p with | some j => (es[j]?).map fun e => (j, e.val) | none => none) w ∧
   ∀ (j : Nat) (x : α), l[j]? = some x → ∃ e, es[j]? = some e ∧ Rep γ w bs u (packV (mka z) ((ty.c x).take (mkn z))) e.key ∧ Rep γ w bs u (packV (mva z) ((ty.c x).drop (mkn z))) e.val := by
 rcases hb with ⟨h0, _⟩ | ⟨_, B', es, clock, h1, h2, h3, h4, h5, h6, h7⟩ | hb
 ·rw [hl] at h0; simp at h0
 ·rw [hl] at h1; simp only [Option.some.injEq, Prod.mk.injEq, and_true] at h1
  subst h1
  have rows : ∀ (j : Nat) (x : α), l[j]? = some x → ∃ e, es[j]? = some e ∧ Rep γ w bs u (packV (mka z) ((ty.c x).take (mkn z))) e.key ∧ Rep γ w bs u (packV (mva z) ((ty.c x).drop (mkn z))) e.val := fun j x hx =>
   MapAt.row h4 h5 h6.1 h7 (by rw [List.getElem?_map, hx]; rfl)
  have hsz : es.size = l.length := by simpa using h4
  refine ⟨es, clock, h3, h2, h6, hsz, h5, h7, fun em => run_checkKeyV h.s hk em, ?_, rows⟩
  rw [run_findKeyV hk es.toList (l.map p) (by simp [hsz]) (fun j e he => ?_) h.s, firstAt_idx p l es.toList 0 (by simpa using hsz)]
  ·cases l.findIdx? p <;> simp
  ·have hj : j < l.length := by rw [← hsz]; have := (List.getElem?_eq_some_iff.1 he).1; simpa using this
   have hx : l[j]? = some l[j] := List.getElem?_eq_getElem hj
   obtain ⟨e', e1, e2, _⟩ := rows j _ hx
   have : e' = e := by
    rw [Array.getElem?_toList, e1] at he
    simpa using he
   subst this
   exact ⟨p l[j], (ty.c l[j]).take (mkn z), by rw [List.getElem?_map, hx]; rfl, h.q _, by rw [← h.a]; exact e2⟩
 ·exact absurd hb.1 (Nat.not_lt_of_le hM)
theorem run_look {mt kt et : TypeId} {z : Nat} {α : Type} {ty : Ty α} {p : α → Bool} {kc : List V} (h : MapW P mt kt et z ty p kc) {γ : Gh} {w : World} {bs : Nat → Option Blk} {u : Nat → Bool} {b : Nat} {excl : Bool} {l : List α} {kv mv : Value} {zv : V}
  (hb : ∀ b k, bs b = some k → BlkOk γ w bs u b k) (hbb : bs b = some ⟨z, excl, l.map ty.c⟩) (hm : Rep γ w bs u (.mp b) mv) (hk : Rep γ w bs u (packV (isAggK P kt) kc) kv) (hz : zeroPack P et = some zv) (ok : Bool) :
  ∃ v, (Instr.lookup mt mv kv ok).run P w = .ok v w ∧ Rep γ w bs u (bif ok then .tup [mlook l p (fun x => packV (mva z) ((ty.c x).drop (mkn z))) zv, .bool (l.findIdx? p).isSome] else mlook l p (fun x => packV (mva z) ((ty.c x).drop (mkn z))) zv) v := by
 obtain ⟨B, rfl, hl, hM⟩ := hm.mp_inv hbb
 obtain ⟨es, clock, h1, h2, h3, h4, h5, h6, h7, h8, h9⟩ := h.find (hb b _ hbb) hl hM hk
 obtain ⟨zval, z1, z2⟩ := run_zeroPack (P := P) (γ := γ) (w := w) (bs := bs) (u := u) hz
 have key : ∃ (v : Value), (Instr.lookup mt (.map (some B)) kv ok).run P w = .ok (if ok = true then .tuple #[v, .bool (l.findIdx? p).isSome] else v) w ∧ Rep γ w bs u (mlook l p (fun x => packV (mva z) ((ty.c x).drop (mkn z))) zv) v := by
  unfold mlook
  cases hf : l.findIdx? p with
  | none =>
   rw [hf] at h8
   refine ⟨zval, ?_, z2⟩
   simp only [Instr.lookup, Sem.run_bind, run_underlying h.m, Result.andThen_ok, MapKept.run_getObj_map h1, Sem.run_pure, h7, h8, z1, Option.isSome_none]
  | some j =>
   rw [hf] at h8
   have hj : j < l.length := (List.findIdx?_eq_some_iff_getElem.1 hf).1
   have hx : l[j]? = some l[j] := List.getElem?_eq_getElem hj
   obtain ⟨e, e1, _, e3⟩ := h9 j _ hx
   simp only [e1, Option.map_some] at h8
   refine ⟨e.val, ?_, ?_⟩
   ·simp only [Instr.lookup, Sem.run_bind, run_underlying h.m, Result.andThen_ok, MapKept.run_getObj_map h1, Sem.run_pure, h7, h8, Option.isSome_some]
   ·show Rep γ w bs u (match l[j]? with | some x => packV (mva z) ((ty.c x).drop (mkn z)) | none => zv) _
    simp only [hx]; exact e3
 obtain ⟨v, k2, k3⟩ := key
 cases ok with
 | false => exact ⟨v, by simpa using k2, k3⟩
 | true =>
  refine ⟨.tuple #[v, .bool (l.findIdx? p).isSome], by simpa using k2, ?_⟩
  exact .tup _ [v, .bool (l.findIdx? p).isSome] rfl fun i c x hc hx => by
   match i, hc, hx with
   | 0, hc, hx => simp at hc hx; subst hc; subst hx; exact k3
   | 1, hc, hx => simp at hc hx; subst hc; subst hx; exact .data (.bool _)
   | n + 2, hc, hx => simp at hc
def Rule.look {α : Type} {mt kt et : TypeId} {z : Nat} {ty : Ty α} {p : α → Bool} {kc : List V} (om oi : Operand) (d b : Nat) (excl : Bool) (l : List α) (zv res : V) (h : MapW P mt kt et z ty p kc) (hz : zeroPack P et = some zv)
  (hr : mlook l p (fun x => packV (mva z) ((ty.c x).drop (mkn z))) zv = res) : Rule P G Unit where
 op := .lookup mt om oi false
 dst := some d
 vals := [(om, .mp b), (oi, packV (isAggK P kt) kc)]
 blks := [(b, ⟨z, excl, l.map ty.c⟩)]
 o := some ()
 ws := fun _ => [.t d res]
 dt := []
 dat := fun _ _ _ _ h => by simp at h
 ok := fun _ _ x st hop hdst hv hb hd => by
  obtain ⟨h1, _⟩ := hd d rfl
  have := effO_pure (P := P) (G := G) (o := x) (st := st) (c := res) (by rw [hdst]; simpa [dstOk] using h1) fun γ a w hs => by
   obtain ⟨v, r1, r2⟩ := run_look h hs.b (hb (b, ⟨z, excl, l.map ty.c⟩) (by simp)) (hv (om, .mp b) (by simp) γ a w hs) (hv (oi, packV (isAggK P kt) kc) (by simp) γ a w hs) hz false
   rw [cond_false, hr] at r2
   exact ⟨v, by simp [execOp, hop, r1], r2⟩
  rw [hdst] at this
  exact this
def Rule.look2 {α : Type} {mt kt et : TypeId} {z : Nat} {ty : Ty α} {p : α → Bool} {kc : List V} (om oi : Operand) (d b : Nat) (excl : Bool) (l : List α) (zv res : V) (h : MapW P mt kt et z ty p kc) (hz : zeroPack P et = some zv)
  (hr : mlook l p (fun x => packV (mva z) ((ty.c x).drop (mkn z))) zv = res) : Rule P G Unit where
 op := .lookup mt om oi true
 dst := some d
 vals := [(om, .mp b), (oi, packV (isAggK P kt) kc)]
 blks := [(b, ⟨z, excl, l.map ty.c⟩)]
 o := some ()
 ws := fun _ => [.t d (.tup [res, .bool (l.findIdx? p).isSome])]
 dt := []
 dat := fun _ _ _ _ h => by simp at h
 ok := fun _ _ x st hop hdst hv hb hd => by
  obtain ⟨h1, _⟩ := hd d rfl
  have := effO_pure (P := P) (G := G) (o := x) (st := st) (c := .tup [res, .bool (l.findIdx? p).isSome]) (by rw [hdst]; simpa [dstOk] using h1) fun γ a w hs => by
   obtain ⟨v, r1, r2⟩ := run_look h hs.b (hb (b, ⟨z, excl, l.map ty.c⟩) (by simp)) (hv (om, .mp b) (by simp) γ a w hs) (hv (oi, packV (isAggK P kt) kc) (by simp) γ a w hs) hz true
   rw [cond_true, hr] at r2
   exact ⟨v, by simp [execOp, hop, r1], r2⟩
  rw [hdst] at this
  exact this
theorem eqFlat_true : ∀ {xs ys : List V}, eqFlat xs ys = some true → xs = ys ∧ ∀ {γ : Gh} {w : World} {bs : Nat → Option Blk} {u : Nat → Bool} (i : Nat) (c : V), xs[i]? = some c → ∃ v, (∀ x, Rep γ w bs u c x → x = v) ∧ Instr.sameBits 9999 v v = true
 | [], [], _ => ⟨rfl, fun i c h => by simp at h⟩
 | [], y :: ys, h => by simp [eqFlat] at h
 | x :: xs, [], h => by cases x <;> simp [eqFlat] at h
 | x :: xs, y :: ys, h => by
  cases x <;> cases y <;> simp only [eqFlat] at h <;> try (simp at h; done)
  case int.int k a k' b =>
   split at h
   ·rename_i hk
    subst hk
    obtain ⟨r, h1, h2⟩ := Option.map_eq_some_iff.1 h
    simp only [Bool.and_eq_true, beq_iff_eq] at h2
    obtain ⟨rfl, rfl⟩ := h2
    obtain ⟨rfl, ih⟩ := eqFlat_true h1
    refine ⟨rfl, fun i c hc => ?_⟩
    cases i with
    | zero =>
     simp only [List.getElem?_cons_zero, Option.some.injEq] at hc
     subst hc
     exact ⟨_, fun x hx => hx.int_inv, by simp [Instr.sameBits]⟩
    | succ i => exact ih i c (by simpa using hc)
   ·simp at h
  case str.str a b =>
   obtain ⟨r, h1, h2⟩ := Option.map_eq_some_iff.1 h
   simp only [Bool.and_eq_true, decide_eq_true_eq] at h2
   obtain ⟨rfl, rfl⟩ := h2
   obtain ⟨rfl, ih⟩ := eqFlat_true h1
   refine ⟨rfl, fun i c hc => ?_⟩
   cases i with
   | zero =>
    simp only [List.getElem?_cons_zero, Option.some.injEq] at hc
    subst hc
    exact ⟨_, fun x hx => hx.str_inv, by simp [Instr.sameBits, MapKept.bytes_beq]⟩
   | succ i => exact ih i c (by simpa using hc)
  case bool.bool a b =>
   obtain ⟨r, h1, h2⟩ := Option.map_eq_some_iff.1 h
   simp only [Bool.and_eq_true, beq_iff_eq] at h2
   obtain ⟨rfl, rfl⟩ := h2
   obtain ⟨rfl, ih⟩ := eqFlat_true h1
   refine ⟨rfl, fun i c hc => ?_⟩
   cases i with
   | zero =>
    simp only [List.getElem?_cons_zero, Option.some.injEq] at hc
    subst hc
    exact ⟨_, fun x hx => hx.bool_inv, by simp [Instr.sameBits]⟩
   | succ i => exact ih i c (by simpa using hc)
theorem keyEq_same {t : TypeId} {xs ys : List V} (h : keyEq P t xs ys = some true) {γ : Gh} {w : World} {bs : Nat → Option Blk} {u : Nat → Bool} {k k' : Value} (hk : Rep γ w bs u (packV (isAggK P t) xs) k)
  (hk' : Rep γ w bs u (packV (isAggK P t) ys) k') : k' = k ∧ (Instr.keyThatStays k' k).run P w = .ok k w := by
 have fin : k' = k → Instr.sameBits 10000 k k = true → k' = k ∧ (Instr.keyThatStays k' k).run P w = .ok k w := fun e hs => by
  subst e
  exact ⟨rfl, by simp [Instr.keyThatStays, hs]⟩
 rcases keyEq_kind h with ⟨q, hu⟩ | hu | ha
 ·have ha : isAggK P t = false := by simp [isAggK, hu]
  rw [ha] at hk hk'
  obtain ⟨k1, a, b, rfl, rfl, e⟩ := keyEq_int hu h
  have e : a = b := by simpa using e.symm
  subst e
  have h1 := Rep.int_inv (hk : Rep γ w bs u (.int k1 a) k)
  have h2 := Rep.int_inv (hk' : Rep γ w bs u (.int k1 a) k')
  exact fin (h2.trans h1.symm) (by rw [h1]; simp [Instr.sameBits])
 ·have ha : isAggK P t = false := by simp [isAggK, hu]
  rw [ha] at hk hk'
  obtain ⟨a, b, rfl, rfl, e⟩ := keyEq_str hu h
  have e : a = b := by simpa using e.symm
  subst e
  have h1 := Rep.str_inv (hk : Rep γ w bs u (.str a) k)
  have h2 := Rep.str_inv (hk' : Rep γ w bs u (.str a) k')
  exact fin (h2.trans h1.symm) (by rw [h1]; simp [Instr.sameBits, MapKept.bytes_beq])
 ·rw [ha] at hk hk'
  replace h := keyEq_flat ha h
  obtain ⟨rfl, cells⟩ := eqFlat_true h
  obtain ⟨v1, rfl, l1, c1⟩ := (hk : Rep γ w bs u (.agg xs) k).agg_inv
  obtain ⟨v2, rfl, l2, c2⟩ := (hk' : Rep γ w bs u (.agg xs) k').agg_inv
  have e : v2 = v1 := by
   refine List.ext_getElem (by omega) fun i h1 h2 => ?_
   have hx : xs[i]? = some (xs[i]'(by omega)) := List.getElem?_eq_getElem (by omega)
   obtain ⟨v, u1, _⟩ := cells (γ := γ) (w := w) (bs := bs) (u := u) i _ hx
   rw [u1 _ (c2 i _ _ hx (List.getElem?_eq_getElem h1)), u1 _ (c1 i _ _ hx (List.getElem?_eq_getElem h2))]
  subst e
  refine fin rfl ?_
  show Instr.sameBits (9999 + 1) _ _ = true
  simp only [Instr.sameBits, beq_self_eq_true, Bool.true_and, List.all_eq_true]
  intro q hq
  obtain ⟨i, hi, e⟩ := List.getElem_of_mem hq
  rw [List.getElem_zip] at e
  rw [← e]
  simp only [List.length_zip, Nat.min_self] at hi
  have hx : xs[i]? = some (xs[i]'(by omega)) := List.getElem?_eq_getElem (by omega)
  obtain ⟨v, u1, u2⟩ := cells (γ := γ) (w := w) (bs := bs) (u := u) i _ hx
  have := u1 _ (c1 i _ _ hx (List.getElem?_eq_getElem hi))
  simp only [this]
  exact u2
theorem dcell_isCell {c : V} (h : dcell c = true) : c.isCell = true := by cases c <;> simp_all [dcell, V.isCell]
theorem unpack_rep {γ : Gh} {w : World} {bs : Nat → Option Blk} {u : Nat → Bool} {a : Bool} {l : List V} {v : Value} (h : Rep γ w bs u (packV a l) v) (h1 : a = false → l.length = 1) :
  (unpackW a v).length = l.length ∧ packW a (unpackW a v) = v ∧ ∀ (j : Nat) (c : V), l[j]? = some c → ∃ x, (unpackW a v)[j]? = some x ∧ Rep γ w bs u c x := by
 cases a with
 | true =>
  obtain ⟨vs, rfl, e1, e2⟩ := (h : Rep γ w bs u (.agg l) v).agg_inv
  refine ⟨by simpa [unpackW] using e1, by simp [packW, unpackW], fun j c hj => ?_⟩
  have hlt : j < vs.length := by rw [e1]; exact (List.getElem?_eq_some_iff.1 hj).1
  have hx : vs[j]? = some vs[j] := List.getElem?_eq_getElem hlt
  exact ⟨vs[j], by simp [unpackW], e2 j c _ hj hx⟩
 | false =>
  have := h1 rfl
  match l, this, h with
  | [c], _, h =>
   refine ⟨rfl, rfl, fun j c' hj => ?_⟩
   cases j with
   | zero => simp at hj; subst hj; exact ⟨v, rfl, h⟩
   | succ j => simp at hj
theorem rows_cells {z : Nat} {es : Array MapEntry} {rows : List (List V)} {R : V → Value → Prop} (hes : EsOk z es) (hlen : es.size = rows.length) (hz : ∀ r, r ∈ rows → r.length = mwd z) :
  (∀ (i : Nat) (c : V), rows.flatten[i]? = some c → ∃ v, (es.toList.flatMap (mcells z))[i]? = some v ∧ R c v) ↔
   ∀ (q : Nat) (r : List V) (e : MapEntry), rows[q]? = some r → es[q]? = some e → ∀ (j : Nat) (c : V), r[j]? = some c → ∃ v, (mcells z e)[j]? = some v ∧ R c v := by
 constructor
 ·intro h q r e hr he j c hj
  have hjl : j < mwd z := by rw [← hz r (List.mem_of_getElem? hr)]; exact (List.getElem?_eq_some_iff.1 hj).1
  obtain ⟨v, v1, v2⟩ := h (q * mwd z + j) c (by rw [flatten_get rows hz q j hjl, hr]; exact hj)
  rw [flatMap_get hes q j hjl, he] at v1
  exact ⟨v, v1, v2⟩
 ·intro h i c hc
  have hpos : 0 < mwd z := by
   rcases Nat.eq_zero_or_pos (mwd z) with h0 | h0
   ·have : rows.flatten = [] := by
     rw [List.flatten_eq_nil_iff]
     intro r hr
     exact List.length_eq_zero_iff.1 ((hz r hr).trans h0)
    rw [this] at hc; simp at hc
   ·exact h0
  have e : i = (i / mwd z) * mwd z + i % mwd z := by rw [Nat.mul_comm]; exact (Nat.div_add_mod i (mwd z)).symm
  have hm := Nat.mod_lt i hpos
  rw [e, flatten_get rows hz _ _ hm] at hc
  obtain ⟨r, hr, hc⟩ := Option.bind_eq_some_iff.1 hc
  have hq : i / mwd z < es.size := by rw [hlen]; exact (List.getElem?_eq_some_iff.1 hr).1
  have he : es[i / mwd z]? = some es[i / mwd z] := Array.getElem?_eq_getElem hq
  obtain ⟨v, v1, v2⟩ := h _ r _ hr he _ c hc
  refine ⟨v, ?_, v2⟩
  rw [e, flatMap_get hes _ _ hm, he]
  exact v1
def Rule.put {α : Type} {mt kt et : TypeId} {z : Nat} {ty : Ty α} {p : α → Bool} {kc : List V} (om oi ov : Operand) (b : Nat) (l : List α) (y : α) (vc : List V) (h : MapW P mt kt et z ty p kc)
    (hy : ty.c y = kc ++ vc) (hk : kc.length = mkn z) (hv : vc.length = mvn z) (hk1 : mka z = false → mkn z = 1) (hv1 : mva z = false → mvn z = 1) : Rule P G Unit where
  op := .mapUpdate mt om oi ov
  dst := none
  vals := [(om, .mp b), (oi, packV (isAggK P kt) kc), (ov, packV (mva z) vc)]
  blks := [(b, ⟨z, true, l.map ty.c⟩)]
  o := some ()
  ws := fun _ => [.b b (some ⟨z, true, (mput l p y).map ty.c⟩)]
  dt := [b]
  dat := fun _ i k hm _ => by
    simp only [List.mem_singleton, Wr.b.injEq, Option.some.injEq] at hm
    obtain ⟨_, rfl⟩ := hm
    exact ty.data _
  ok := fun _ _ x st hop hdst hvs hb _ => effO_skip fun γ a w hs => by
    have hbb := hb (b, ⟨z, true, l.map ty.c⟩) (by simp)
    have rm := hvs (om, .mp b) (by simp) γ a w hs
    have rk := hvs (oi, packV (isAggK P kt) kc) (by simp) γ a w hs
    have rv := hvs (ov, packV (mva z) vc) (by simp) γ a w hs
    obtain ⟨B, hB, hl, hM⟩ := rm.mp_inv hbb
    obtain ⟨es, clock, h1, h2, h3, h4, h5, h6, h7, h8, h9⟩ := h.find (hs.b b _ hbb) hl hM rk
    rw [← h.a] at rk
    obtain ⟨u1, u2, u3⟩ := unpack_rep rk (fun e => by rw [hk]; exact hk1 e)
    obtain ⟨t1, t2, t3⟩ := unpack_rep rv (fun e => by rw [hv]; exact hv1 e)
    have hold := (rows_cells h3.1 (by rw [h4]; simp) h5).1 h6

    have newOk : ∀ e : MapEntry, e.key = a.eval oi → e.val = a.eval ov → (unpackW (mka z) e.key).length = mkn z ∧ packW (mka z) (unpackW (mka z) e.key) = e.key ∧ (unpackW (mva z) e.val).length = mvn z ∧ packW (mva z) (unpackW (mva z) e.val) = e.val := fun e e1 e2 => by
      rw [e1, e2]; exact ⟨u1.trans hk, u2, t1.trans hv, t2⟩
    have newCells : ∀ e : MapEntry, e.key = a.eval oi → e.val = a.eval ov → ∀ (j : Nat) (c : V), (ty.c y)[j]? = some c → ∃ v, (mcells z e)[j]? = some v ∧ Rep γ w st.b st.u c v ∧ v.oneCell' = true := fun e e1 e2 j c hj => by
      have hcell := dcell_isCell (List.all_eq_true.1 (ty.cd y) c (List.mem_of_getElem? hj))
      rw [hy] at hj
      have : ∃ v, (mcells z e)[j]? = some v ∧ Rep γ w st.b st.u c v := by
        unfold mcells
        rw [e1, e2]
        by_cases hlt : j < kc.length
        · rw [List.getElem?_append_left hlt] at hj
          obtain ⟨v, v1, v2⟩ := u3 j c hj
          exact ⟨v, by rw [List.getElem?_append_left (by rw [u1]; exact hlt)]; exact v1, v2⟩
        · rw [List.getElem?_append_right (by omega)] at hj
          obtain ⟨v, v1, v2⟩ := t3 _ c hj
          exact ⟨v, by rw [List.getElem?_append_right (by rw [u1]; omega), u1]; exact v1, v2⟩
      obtain ⟨v, v1, v2⟩ := this
      exact ⟨v, v1, v2, v2.isCell_one hcell⟩
    have hyl : (ty.c y).length = mwd z := by rw [hy, List.length_append, hk, hv]; rfl
    have fin : ∀ (es' : Array MapEntry) (clock' : Nat), es'.size = (mput l p y).length → (EsOk z es' ∧ Born es' clock') → (∀ (q : Nat) (x' : α) (e : MapEntry), (mput l p y)[q]? = some x' → es'[q]? = some e → (x' = y ∧ e.key = a.eval oi ∧ e.val = a.eval ov) ∨ (l[q]? = some x' ∧ es[q]? = some e)) →
        (Instr.mapUpdate mt (a.eval om) (a.eval oi) (a.eval ov)).run P w = .ok () (w.putObj B (.map es' clock')) →
        ∃ w' γ', (execOp a.eval x).run P w = .ok .skip w' ∧ Grow γ w γ' w' ∧ Pin γ st.b st.u γ' (st.app [.b b (some ⟨z, true, (mput l p y).map ty.c⟩)]).b (st.app [.b b (some ⟨z, true, (mput l p y).map ty.c⟩)]).u ∧
          Sim G γ' (st.app [.b b (some ⟨z, true, (mput l p y).map ty.c⟩)]) (a.put x.dst undef).tmps w' := fun es' clock' g1 g2 g3 g4 => by
      have hz' : ∀ r, r ∈ (mput l p y).map ty.c → r.length = mwd z := fun r hr => by
        obtain ⟨x', hx', rfl⟩ := List.mem_map.1 hr
        obtain ⟨q, hq⟩ := List.mem_iff_getElem?.1 hx'
        have hqs : q < es'.size := by rw [g1]; exact (List.getElem?_eq_some_iff.1 hq).1
        rcases g3 q x' _ hq (Array.getElem?_eq_getElem hqs) with ⟨e1, _⟩ | ⟨e1, _⟩
        · rw [e1]; exact hyl
        · exact h5 _ (List.mem_map.2 ⟨x', List.mem_of_getElem? e1, rfl⟩)
      have key := hs.putMap (clock' := clock') (es' := es') (rows' := (mput l p y).map ty.c) hbb hM hl h2 h1 (by rw [g1]; simp) hz' g2 ((rows_cells g2.1 (by rw [g1]; simp) hz').2 fun q r e hr he j c hj => by
        rw [List.getElem?_map, Option.map_eq_some_iff] at hr
        obtain ⟨x', hx', rfl⟩ := hr
        rcases g3 q x' e hx' he with ⟨rfl, e2, e3⟩ | ⟨e1, e2⟩
        · exact newCells e e2 e3 j c hj
        · exact hold q (ty.c x') e (by rw [List.getElem?_map, e1]; rfl) e2 j c hj)
      refine ⟨w.putObj B (.map es' clock'), γ, by simp [execOp, hop, g4], key.2.1, key.2.2.pin, ?_⟩
      rw [hdst]
      exact key.1
    cases hf : l.findIdx? p with
    | none =>
      have hm : mput l p y = l ++ [y] := by unfold mput; rw [hf]
      refine fin (es.push { key := a.eval oi, val := a.eval ov, born := clock }) (clock + 1) (by rw [hm]; simp [h4]) ⟨fun e he => ?_, by
          refine ⟨?_, fun e he => ?_⟩
          · simp only [Array.toList_push, List.map_append, List.map_cons, List.map_nil]
            refine List.nodup_append.2 ⟨h3.2.1, by simp, fun x hx y hy e => ?_⟩
            obtain ⟨e0, he0, rfl⟩ := List.mem_map.1 hx
            simp only [List.mem_singleton] at hy
            have := h3.2.2 e0 he0
            omega
          · simp only [Array.toList_push, List.mem_append, List.mem_singleton] at he
            rcases he with he | rfl
            · exact Nat.lt_succ_of_lt (h3.2.2 e he)
            · exact Nat.lt_succ_self clock⟩ (fun q x' e hq he => ?_) ?_
      · rcases Array.mem_push.1 he with he | rfl
        · exact h3.1 e he
        · exact newOk _ rfl rfl
      · rw [hm] at hq
        by_cases hlt : q < l.length
        · rw [List.getElem?_append_left hlt] at hq
          rw [Array.getElem?_push, if_neg (by omega)] at he
          exact .inr ⟨hq, he⟩
        · have hq1 : q < (l ++ [y]).length := (List.getElem?_eq_some_iff.1 hq).1
          have hql : q = l.length := by simp at hq1; omega
          subst hql
          simp at hq
          rw [Array.getElem?_push, if_pos (by omega)] at he
          simp only [Option.some.injEq] at he
          exact .inl ⟨hq.symm, by rw [← he], by rw [← he]⟩
      · rw [hf] at h8
        rw [hB]
        simp only [Instr.mapUpdate, Sem.run_bind, run_underlying h.m, Result.andThen_ok, MapKept.run_getObj_map h1, h7, h8]
        exact MapKept.run_setObj_map _ h1
    | some j =>
      have hm : mput l p y = l.set j y := by unfold mput; rw [hf]
      obtain ⟨hj, hpj, _⟩ := List.findIdx?_eq_some_iff_getElem.1 hf
      have hx : l[j]? = some l[j] := List.getElem?_eq_getElem hj
      obtain ⟨e, e1, e2, e3⟩ := h9 j _ hx
      obtain ⟨k1, k2⟩ := keyEq_same (P := P) (t := kt) (by rw [h.q, hpj]) (hvs (oi, packV (isAggK P kt) kc) (by simp) γ a w hs) (by rw [← h.a]; exact e2)
      refine fin (es.modify j fun e => { e with key := a.eval oi, val := a.eval ov }) clock (by rw [hm]; simp [h4]) ⟨fun e' he => ?_, by
          have hb : (es.modify j fun e => { e with key := a.eval oi, val := a.eval ov }).toList.map (·.born) = es.toList.map (·.born) := by
            refine List.ext_getElem? fun q => ?_
            rw [List.getElem?_map, List.getElem?_map, Array.getElem?_toList, Array.getElem?_toList, Array.getElem?_modify]
            split
            · cases es[q]? <;> rfl
            · rfl
          refine ⟨by rw [hb]; exact h3.2.1, fun e' he' => ?_⟩
          have hm' : e'.born ∈ es.toList.map (·.born) := by rw [← hb]; exact List.mem_map.2 ⟨e', he', rfl⟩
          obtain ⟨e0, he0, e1⟩ := List.mem_map.1 hm'
          rw [← e1]; exact h3.2.2 e0 he0⟩ (fun q x' e' hq he => ?_) ?_
      · obtain ⟨q, hq, rfl⟩ := Array.mem_iff_getElem.1 he
        rw [Array.getElem_modify]
        split
        · exact newOk _ rfl rfl
        · exact h3.1 _ (Array.getElem_mem _)
      · rw [hm] at hq
        rw [Array.getElem?_modify] at he
        by_cases hqj : j = q
        · subst hqj
          rw [List.getElem?_set_self hj] at hq
          simp only [if_pos, e1, Option.map_some, Option.some.injEq] at he hq
          exact .inl ⟨hq.symm, by rw [← he], by rw [← he]⟩
        · rw [List.getElem?_set_ne hqj] at hq
          rw [if_neg hqj] at he
          exact .inr ⟨hq, he⟩
      · rw [hf] at h8
        simp only [e1, Option.map_some] at h8
        rw [hB]
        simp only [Instr.mapUpdate, Sem.run_bind, run_underlying h.m, Result.andThen_ok, MapKept.run_getObj_map h1, h7, h8, e1, Option.map_some, Option.getD_some, k2]
        exact MapKept.run_setObj_map _ h1
end
end Go.EV
namespace Go.EV
open Go
theorem Rep.yld_inv {γ : Gh} {w : World} {bs : Nat → Option Blk} {u : Nat → Bool} {l : Nat} {v : Value} (h : Rep γ w bs u (.yld l) v) : v = .func (.yield l) #[] #[] := by
 cases h with
 | data h => cases h; rfl
theorem Rep.pin {γ γ' : Gh} {w w' : World} {bs bs' : Nat → Option Blk} {u u' : Nat → Bool} (g : Grow γ w γ' w') (hp : Pin γ bs u γ' bs' u') {c : V} {v : Value} (h : Rep γ w bs u c v) : okV uPin c = true → Rep γ' w' bs' u' c v := by
 have top : ∀ {b}, uPin b = true → uPin b = true := fun h => h
 induction h with
 | data h => exact fun _ => .data (g.data h)
 | undef v => exact fun _ => .undef v
 | ref b off len B o cap k h1 h2 h3 h4 h5 h6 h7 =>
  intro ho
  simp only [okV] at ho
  obtain ⟨_, _, hk⟩ := hp b (top ho)
  obtain ⟨hu, hk⟩ := hk k h1
  rcases hk with hk | ⟨k', hk, hs, hr, hl⟩
  ·exact .deadRef b off len _ hk hu rfl
  ·rw [← hs]
   exact .ref b off len B o cap k' hk (hl.trans h2) (by rw [hr h6]; exact h3) h4 (g.roomAt (by rw [hs]; exact h5)) (by rw [hs]; exact h6) (by rw [hr h6]; exact h7)
 | refE b off B k h1 h6 h2 =>
  intro ho
  simp only [okV] at ho
  obtain ⟨_, _, hk⟩ := hp b (top ho)
  obtain ⟨hu, hk⟩ := hk k h1
  rcases hk with hk | ⟨k', hk, hs, hr, hl⟩
  ·exact .deadRef b off 0 _ hk hu rfl
  ·exact .refE b off B k' hk (by rw [hs]; exact h6) ((hr h6).trans h2)
 | refN b off k h1 h6 h2 =>
  intro ho
  simp only [okV] at ho
  obtain ⟨_, _, hk⟩ := hp b (top ho)
  obtain ⟨hu, hk⟩ := hk k h1
  rcases hk with hk | ⟨k', hk, hs, hr, hl⟩
  ·exact .deadRef b off 0 _ hk hu rfl
  ·exact .refN b off k' hk (by rw [hs]; exact h6) ((hr h6).trans h2)
 | deadRef b off len v h1 h2 h3 =>
  intro ho
  simp only [okV] at ho
  obtain ⟨hu, hg, _⟩ := hp b (top ho)
  exact .deadRef b off len v (hg h2 h1) (hu h2) h3
 | ptr b i off B o k h1 h2 h3 =>
  intro ho
  simp only [okV] at ho
  obtain ⟨_, _, hk⟩ := hp b (top ho)
  obtain ⟨hu, hk⟩ := hk k h1
  rcases hk with hk | ⟨k', hk, hs, hr, hl⟩
  ·exact .deadPtr b i off _ hk hu rfl
  ·rw [← hs]; exact .ptr b i off B o k' hk (hl.trans h2) (by rw [hs]; exact h3)
 | mp b B k h1 h2 h3 =>
  intro ho
  simp only [okV] at ho
  obtain ⟨_, _, hk⟩ := hp b (top ho)
  obtain ⟨hu, hk⟩ := hk k h1
  rcases hk with hk | ⟨k', hk, hs, hr, hl⟩
  ·exact .deadMp b _ hk hu rfl
  ·exact .mp b B k' hk (hl.trans h2) (by rw [hs]; exact h3)
 | deadMp b v h1 h2 h3 =>
  intro ho
  simp only [okV] at ho
  obtain ⟨hu, hg, _⟩ := hp b (top ho)
  exact .deadMp b v (hg h2 h1) (hu h2) h3
 | deadPtr b i off v h1 h2 h3 =>
  intro ho
  simp only [okV] at ho
  obtain ⟨hu, hg, _⟩ := hp b (top ho)
  exact .deadPtr b i off v (hg h2 h1) (hu h2) h3
 | fn f first captured fs cs h1 h2 _ _ ih1 ih2 =>
  intro ho
  simp only [okV, Bool.and_eq_true] at ho
  exact .fn f first captured fs cs h1 h2 (fun i c v hc hv => ih1 i c v hc hv (okL_get ho.1 hc)) (fun i c v hc hv => ih2 i c v hc hv (okL_get ho.2 hc))
 | agg cells vs h1 _ ih => intro ho; exact .agg cells vs h1 fun i c v hc hv => ih i c v hc hv (okL_get (by simpa [okV] using ho) hc)
 | tup cells vs h1 _ ih => intro ho; exact .tup cells vs h1 fun i c v hc hv => ih i c v hc hv (okL_get (by simpa [okV] using ho) hc)
def susp (n : Nat) (t : Nat → V) (b : Nat → Option Blk) : St := ⟨n, t, b, uTop⟩
theorem Sim.resume {G : Nat → Option (List V)} {γ γ' : Gh} {w w' : World} {n m : Nat} {t t' : Nat → V} {b b' : Nat → Option Blk} {te tm : Array Value} (h : Sim G γ (susp n t b) te w) (ht : ∀ i, okV uPin (t i) = true)
  (g : Grow γ w γ' w') (hp : Pin γ b uTop γ' b' uTop) (h' : Sim G γ' (susp m t' b') tm w') : Sim G γ' (susp n t b') te w' :=
 ⟨h.n, fun i => (h.t i).pin g hp (ht i), h'.b, h'.u, h'.g, h'.o⟩
def setP (st : St) (l : List (Nat × V)) : St := l.foldl (fun st p => st.setT p.1 p.2) st
theorem Sim.setP {G : Nat → Option (List V)} {γ : Gh} {w : World} : ∀ {ps : List Nat} {cs : List V} {vs : List Value} {st : St} {ts : Array Value}, Sim G γ st ts w → (∀ p, p ∈ ps → p < st.n) → cs.length = ps.length → vs.length = ps.length →
  (∀ (i : Nat) (c : V) (v : Value), cs[i]? = some c → vs[i]? = some v → Rep γ w st.b st.u c v) → Sim G γ (EV.setP st (ps.zip cs)) ((ps.zip vs).foldl (fun t p => t.setIfInBounds p.1 p.2) ts) w
 | [], cs, vs, st, ts, h, _, _, _, _ => by simpa [EV.setP] using h
 | p :: ps, c :: cs, v :: vs, st, ts, h, hp, h1, h2, hr => by
  have key : Sim G γ (st.put (some p) c) ((⟨ts, []⟩ : Act).put (some p) v).tmps w := Sim.put (a := ⟨ts, []⟩) h (by simpa [dstOk] using hp p (by simp)) (hr 0 c v rfl rfl)
  exact Sim.setP (ps := ps) (cs := cs) (vs := vs) (st := st.setT p c) key (fun q hq => hp q (by simp [hq])) (by simpa using h1) (by simpa using h2) fun i c' v' hc hv => hr (i + 1) c' v' (by simpa using hc) (by simpa using hv)
 | p :: ps, [], vs, st, ts, _, _, h1, _, _ => by simp at h1
 | p :: ps, c :: cs, [], st, ts, _, _, _, h2, _ => by simp at h2
theorem setP_bu : ∀ (L : List (Nat × V)) (s : St), (setP s L).b = s.b ∧ (setP s L).u = s.u
 | [], _ => ⟨rfl, rfl⟩
 | p :: L, s => ⟨(setP_bu L (s.setT p.1 p.2)).1, (setP_bu L (s.setT p.1 p.2)).2⟩
def RoundT (P : Program) (G : Nat → Option (List V)) (n : Nat) (t : Nat → V) (ps : List Nat) (assign body : Code) (b : Nat → Option Blk) (cs : List V) (R : Exit → (Nat → Option Blk) → Prop) : Prop :=
 ∃ st1, TV P G assign (setP (susp n t b) (ps.zip cs)) (fun e s => e = .normal ∧ Gst G s st1) ∧
  TV P G body st1 (fun e s => ∃ b' m, R e b' ∧ Gst G s (susp m (fun _ => .undef) b'))
def jumpOf : Exit → Option Code
 | .ret => some .ret
 | .exit id => some (.exit id)
 | _ => none
def recOf (fn : FuncId) (te : Array Value) (ps : Array Tmp) (assign body : Code) (D : Nat) (e : Exit) : Loop :=
 { state := if (jumpOf e).isNone then .ready else .done, pending := jumpOf e, fn, tmps := te, params := ps, assign, body, defers := D }
structure YL where
 n : Nat
 t : Nat → V
 ps : Array Tmp
 assign : Code
 body : Code
structure Env (G : Nat → Option (List V)) (L : YL) (γ0 : Gh) (w0 : World) (b0 : Nat → Option Blk) (l D : Nat) (Ds : List Nat) (sz : Nat) (te : Array Value) (r : Loop) (γ : Gh) (b : Nat → Option Blk) (u : Nat → Bool) (w : World) : Prop where
 sim0 : Sim G γ0 (susp L.n L.t b0) te w0
 grow : Grow γ0 w0 γ w
 pin : Pin γ0 b0 uTop γ b u
 loop : w.heap[l]? = some (.loop r)
 own : γ.own l = none
 lo : w0.heap.size ≤ l ∧ l < sz ∧ w0.heap.size ≤ sz ∧ sz ≤ w.heap.size
 dfr : ∀ E, E ∈ Ds → w.heap[E]? = some (.deferred (some [])) ∧ γ.own E = none ∧ w0.heap.size ≤ E ∧ E < sz ∧ E ≠ l
def MarksI (sz : Nat) (γ : Gh) (w : World) (ds : List Deferred) : Prop :=
 ∃ Es : List Nat, ds = Es.map markD ∧ Es.Nodup ∧ ∀ E, E ∈ Es → sz ≤ E ∧ w.heap[E]? = some (.deferred (some [])) ∧ γ.own E = none
theorem MarksI.nil {sz : Nat} {γ : Gh} {w : World} : MarksI sz γ w [] := ⟨[], rfl, by simp, fun E h => by simp at h⟩
theorem MarksI.trans {sz : Nat} {γ γ' : Gh} {w w' : World} {ds ds' : List Deferred} (h : MarksI sz γ w ds) (g : Grow γ w γ' w') (k : Marks true w γ' w' ds ds') (hz : sz ≤ w.heap.size) : MarksI sz γ' w' ds' := by
 obtain ⟨Es, rfl, h2, h3⟩ := h
 obtain ⟨Fs, _, k1, k2, k3⟩ := k
 have lt : ∀ E, E ∈ Es → E < w.heap.size := fun E hE => (Array.getElem?_eq_some_iff.1 (h3 E hE).2.1).1
 refine ⟨Fs ++ Es, by rw [k1]; simp, List.nodup_append.2 ⟨k2, h2, fun x hx y hy e => ?_⟩, fun E hE => ?_⟩
 ·subst e
  have := lt x hy
  have := (k3 x hx).1
  omega
 ·rcases List.mem_append.1 hE with hE | hE
  ·exact ⟨Nat.le_trans hz (k3 E hE).1, (k3 E hE).2⟩
  ·obtain ⟨a1, a2, a3⟩ := h3 E hE
   obtain ⟨b1, b2, _⟩ := g.free E (lt E hE) a3
   exact ⟨a1, b1.trans a2, b2⟩
theorem MarksI.grow {sz : Nat} {γ γ' : Gh} {w w' : World} {ds : List Deferred} (h : MarksI sz γ w ds) (g : Grow γ w γ' w') : MarksI sz γ' w' ds := by
 obtain ⟨Es, h1, h2, h3⟩ := h
 refine ⟨Es, h1, h2, fun E hE => ?_⟩
 obtain ⟨a1, a2, a3⟩ := h3 E hE
 obtain ⟨b1, b2, _⟩ := g.free E (Array.getElem?_eq_some_iff.1 a2).1 a3
 exact ⟨a1, b1.trans a2, b2⟩
theorem MarksI.put {sz : Nat} {γ : Gh} {w : World} {ds : List Deferred} {l : Nat} {r : Loop} {o : Obj} (h : MarksI sz γ w ds) (hl : w.heap[l]? = some (.loop r)) : MarksI sz γ (w.putObj l o) ds := by
 obtain ⟨Es, h1, h2, h3⟩ := h
 refine ⟨Es, h1, h2, fun E hE => ?_⟩
 obtain ⟨a1, a2, a3⟩ := h3 E hE
 exact ⟨a1, by rw [World.putObj_heap_other (fun e => by rw [e, hl] at a2; cases a2)]; exact a2, a3⟩
section
variable {P : Program} {G : Nat → Option (List V)} {L : YL} {γ0 : Gh} {w0 : World} {b0 : Nat → Option Blk} {l D : Nat} {Ds : List Nat} {sz : Nat} {te : Array Value} {r : Loop} {γ : Gh} {b : Nat → Option Blk} {u : Nat → Bool} {w : World}
theorem Env.step (h : Env G L γ0 w0 b0 l D Ds sz te r γ b u w) {γ' : Gh} {b' : Nat → Option Blk} {u' : Nat → Bool} {w' : World} (g : Grow γ w γ' w') (hp : Pin γ b u γ' b' u') : Env G L γ0 w0 b0 l D Ds sz te r γ' b' u' w' := by
 have l1 := (Array.getElem?_eq_some_iff.1 h.loop).1
 refine ⟨h.sim0, h.grow.trans g, h.pin.trans hp, (g.free l l1 h.own).1.trans h.loop, (g.free l l1 h.own).2.1, ⟨h.lo.1, h.lo.2.1, h.lo.2.2.1, Nat.le_trans h.lo.2.2.2 g.size⟩, fun E hE => ?_⟩
 obtain ⟨a1, a2, a3⟩ := h.dfr E hE
 obtain ⟨b1, b2, _⟩ := g.free E (Array.getElem?_eq_some_iff.1 a1).1 a2
 exact ⟨b1.trans a1, b2, a3⟩
theorem Env.put (h : Env G L γ0 w0 b0 l D Ds sz te r γ b u w) {i : Nat} {o o' : Obj} (hi : w.heap[i]? = some o) (hn : dataObj o = false) (h0 : w0.heap.size ≤ i) (hil : i ≠ l) (hd : ∀ E, E ∈ Ds → E ≠ i) : Env G L γ0 w0 b0 l D Ds sz te r γ b u (w.putObj i o') :=
 ⟨h.sim0, h.grow.put hi hn h0, h.pin, (World.putObj_heap_other (Ne.symm hil)).trans h.loop, h.own, ⟨h.lo.1, h.lo.2.1, h.lo.2.2.1, by rw [World.putObj_size]; exact h.lo.2.2.2⟩, fun E hE => by
  obtain ⟨a1, a2⟩ := h.dfr E hE
  exact ⟨(World.putObj_heap_other (hd E hE)).trans a1, a2⟩⟩
theorem Env.record (h : Env G L γ0 w0 b0 l D Ds sz te r γ b u w) (r' : Loop) : Env G L γ0 w0 b0 l D Ds sz te r' γ b u (w.putObj l (.loop r')) :=
 ⟨h.sim0, h.grow.put h.loop rfl h.lo.1, h.pin, World.putObj_heap_same (Array.getElem?_eq_some_iff.1 h.loop).1, h.own, ⟨h.lo.1, h.lo.2.1, h.lo.2.2.1, by rw [World.putObj_size]; exact h.lo.2.2.2⟩, fun E hE => by
  obtain ⟨a1, a2, a3, a4, a5⟩ := h.dfr E hE
  exact ⟨(World.putObj_heap_other a5).trans a1, a2, a3, a4, a5⟩⟩
theorem yield_round {fn : FuncId} {ni : Nat} {ti : Nat → V} {tm : Array Value} {cs : List V} {as : Array Value} {R : Exit → (Nat → Option Blk) → Prop} {X : Ending → World → Prop} (hs : Sim G γ (susp ni ti b) tm w) (hti : ∀ i, okV uPin (ti i) = true) (ht : ∀ i, okV uPin (L.t i) = true) (hpn : ∀ p, p ∈ L.ps.toList → p < L.n)
  (he : Env G L γ0 w0 b0 l D Ds sz te (recOf fn te L.ps L.assign L.body D .normal) γ b uTop w) (hps : cs.length = L.ps.size) (hr : RoundT P G L.n L.t L.ps.toList L.assign L.body b cs R) (hR : ∀ e b', R e b' → e = .normal ∨ e = .ret ∨ ∃ id, e = .exit id)
  (ha : as.size = L.ps.size) (hcs : ∀ (i : Nat) (c : V) (v : Value), cs[i]? = some c → as[i]? = some v → Rep γ w b uTop c v)
  {ds : List Deferred} (hk : MarksI sz γ w ds)
  (hX : ∀ e b' γ' w', R e b' → Env G L γ0 w0 b0 l D Ds sz te (recOf fn te L.ps L.assign L.body D e) γ' b' uTop w' → Sim G γ' (susp ni ti b') tm w' → MarksI sz γ' w' ds → X (.returned (.bool (jumpOf e).isNone)) w') :
  RoundIn (RF none) 0 P l fn ((L.ps.zip as).foldl (fun t (p, v) => t.setIfInBounds p v) te) L.assign L.body w X := by
 obtain ⟨st1, r1, r2⟩ := hr
 have e1 : (L.ps.zip as).foldl (fun t (p, v) => t.setIfInBounds p v) te = (L.ps.toList.zip as.toList).foldl (fun t p => t.setIfInBounds p.1 p.2) te := by
  rw [← Array.foldl_toList, Array.toList_zip]
 refine roundIn_of_wpIn trivial ?_
 rw [e1]
 have sT : Sim G γ (susp L.n L.t b) te w := he.sim0.resume ht he.grow he.pin hs
 have h1 : Sim G γ (setP (susp L.n L.t b) (L.ps.toList.zip cs)) ((L.ps.toList.zip as.toList).foldl (fun t p => t.setIfInBounds p.1 p.2) te) w :=
  Sim.setP sT hpn (by simpa using hps) (by simpa using ha) fun i c v hc hv => hcs i c v hc (by simpa using hv)
 have b1 := setP_bu (L.ps.toList.zip cs) (susp L.n L.t b)
 refine wpIn_mono (r1 ⟨some l, [], true⟩ γ ⟨_, []⟩ w h1 ⟨rfl, rfl, fun l' hl' => by cases hl'; exact ⟨⟨_, he.loop⟩, he.own⟩⟩) fun e a1 w1 hl => ?_
 obtain ⟨s1, γ1, k1, ⟨k2, k2p⟩, k3, rfl, k4⟩ := hl
 obtain ⟨γ2, m1, m2, m3⟩ := k4 γ1 a1.tmps w1 k1
 have g2 := k2.trans m2
 have p2 := k2p.trans m3
 rw [b1.1, b1.2] at p2

 have hl1 : w1.heap[l]? = some (.loop (recOf fn te L.ps L.assign L.body D .normal)) := (k2.free l (Array.getElem?_eq_some_iff.1 he.loop).1 he.own).1.trans he.loop
 refine ⟨_, run_beginRound hl1 rfl, ?_⟩
 have cs1 : ∀ o', CellsSame w1 (w1.putObj l o') := fun o' => .put hl1 rfl
 have own2 : γ2.own l = none := (g2.free l (Array.getElem?_eq_some_iff.1 he.loop).1 he.own).2.1
 refine wpIn_mono (r2 ⟨some l, a1.defers, true⟩ γ2 a1 _ ((cs1 _).sim m1) ⟨rfl, rfl, fun l' hl' => by cases hl'; exact ⟨⟨_, World.putObj_heap_same (Array.getElem?_eq_some_iff.1 hl1).1⟩, own2⟩⟩) fun e a2 w2 hl => ?_
 obtain ⟨s2, γ3, n1, ⟨n2, n2p⟩, n3, b', m, q1, q2⟩ := hl
 obtain ⟨γ4, o1, o2, o3⟩ := q2 γ3 a2.tmps w2 n1
 have g4 := n2.trans o2
 have p4 := n2p.trans o3

 have eB := he.record { recOf fn te L.ps L.assign L.body D .normal with state := .busy }
 have csw : ∀ o', CellsSame w (w.putObj l o') := fun o' => .put he.loop rfl
 have gB : Grow γ (w.putObj l (.loop { recOf fn te L.ps L.assign L.body D .normal with state := .busy })) γ2 (w1.putObj l (.loop { recOf fn te L.ps L.assign L.body D .normal with state := .busy })) := by
  refine ⟨g2.os, g2.tape, g2.output, by simpa using g2.size, fun B o v hB hc => ?_, fun B hB => g2.lim B (by simpa using hB), fun B hB hn => ?_, fun B cs e fz hc => ?_⟩
  ·have hne : B ≠ l := fun e => by
    subst e
    obtain ⟨c1, c2, c3, hb⟩ := cellAt_block hc
    rw [World.putObj_heap_same (Array.getElem?_eq_some_iff.1 he.loop).1] at hb; cases hb
   refine (cs1 _).cell (g2.imm B o v hB ?_)
   unfold cellAt World.cell? at hc ⊢
   simp only [World.putObj_heap_other hne] at hc; exact hc
  ·rw [World.putObj_size] at hB
   obtain ⟨a1, a2, a3⟩ := g2.free B hB hn
   refine ⟨?_, a2, a3⟩
   by_cases e : B = l
   ·subst e; rw [World.putObj_heap_same (Array.getElem?_eq_some_iff.1 hl1).1, World.putObj_heap_same hB]
   ·rw [World.putObj_heap_other e, World.putObj_heap_other e]; exact a1
  ·have hne : B ≠ l := fun e' => by
    subst e'
    rw [World.putObj_heap_same (Array.getElem?_eq_some_iff.1 he.loop).1] at hc; cases hc
   rw [World.putObj_heap_other hne] at hc
   obtain ⟨cs', c1, c2⟩ := g2.room B cs e fz hc
   exact ⟨cs', by rw [World.putObj_heap_other hne]; exact c1, c2⟩
 have gT := gB.trans g4
 have pT : Pin γ b uTop γ4 b' uTop := p2.trans p4
 have sI : Sim G γ4 (susp ni ti b') tm w2 := ((csw _).sim hs).resume hti gT pT o1
 have f1 := eB.step gT pT
 have hl2 := f1.loop
 have mk2 : MarksI sz γ4 w2 ds := (hk.put he.loop).grow gT
 have fin : ∀ (e : Exit), R e b' → (Instr.endRound l (jumpOf e)).run P w2 = .ok (.bool (jumpOf e).isNone) (w2.putObj l (.loop (recOf fn te L.ps L.assign L.body D e))) ∧ X (.returned (.bool (jumpOf e).isNone)) (w2.putObj l (.loop (recOf fn te L.ps L.assign L.body D e))) := fun e hRe =>
  ⟨run_endRound (P := P) (jumpOf e) hl2, hX e b' γ4 _ hRe (f1.record _) ((CellsSame.put hl2 rfl).sim sI) (mk2.put hl2)⟩
 rcases hR e b' q1 with rfl | rfl | ⟨id, rfl⟩
 ·exact ⟨_, _, fin .normal q1⟩
 ·exact ⟨_, _, fin .ret q1⟩
 ·exact ⟨_, _, fin (.exit id) q1⟩
theorem yield_op {fn : FuncId} {o : Oper} {x : Operand} {xs : Array Operand} {ts : Array TypeId} {ni : Nat} {ti : Nat → V} {a : Act} {cs : List V} {R : Exit → (Nat → Option Blk) → Prop} {nx : Act → World → Prop} {Q : Exit → Act → World → Prop}
  (ho : o.op = .call { callee := .value x, args := xs, argTypes := ts }) (hx : (susp ni ti b).ev G x = some (.yld l)) (hcs : evs ((susp ni ti b).ev G) xs.toList = some cs)
  (hs : Sim G γ (susp ni ti b) a.tmps w) (hti : ∀ i, okV uPin (ti i) = true) (ht : ∀ i, okV uPin (L.t i) = true) (hpn : ∀ p, p ∈ L.ps.toList → p < L.n)
  (he : Env G L γ0 w0 b0 l D Ds sz te (recOf fn te L.ps L.assign L.body D .normal) γ b uTop w) (hps : cs.length = L.ps.size) (hr : RoundT P G L.n L.t L.ps.toList L.assign L.body b cs R) (hR : ∀ e b', R e b' → e = .normal ∨ e = .ret ∨ ∃ id, e = .exit id)
  (hk : MarksI sz γ w a.defers) (hX : ∀ e b' γ' w', R e b' → Env G L γ0 w0 b0 l D Ds sz te (recOf fn te L.ps L.assign L.body D e) γ' b' uTop w' → Sim G γ' (susp ni ti b') a.tmps w' → MarksI sz γ' w' a.defers → nx (a.put o.dst (.bool (jumpOf e).isNone)) w') :
  o.wpIn (RF none) 0 P a w nx Q := by
 refine ⟨fun _ _ => trivial, ?_⟩
 have hv := (hs.ev hx).yld_inv
 have e : (execOp a.eval o) = (do let d ← Deferred.ofValue (a.eval x) (xs.map a.eval); invoke d.target d.args) := by
  unfold execOp; rw [ho]; rfl
 have hm := evs_rep hs hcs
 have k : (xs.toList.map a.eval).toArray = xs.map a.eval := Array.ext' (by rw [Array.toList_map])
 rw [k] at hm
 have hsz : (xs.map a.eval).size = L.ps.size := hm.1.trans hps
 have hrun : (execOp a.eval o).run P w = .ok (.round l fn ((L.ps.zip (xs.map a.eval)).foldl (fun t (p, v) => t.setIfInBounds p v) te) L.assign L.body) w := by
  rw [e, hv]
  have : (do let d ← Deferred.ofValue (.func (.yield l) #[] #[]) (xs.map a.eval); invoke d.target d.args : Sem Next) = Instr.yield l (xs.map a.eval) := by
   simp [Deferred.ofValue, invoke]
  rw [this]
  exact run_yield he.loop hsz
 show o.uponIn _ _ _ _ _ _ (((o.semAt none a.eval)).run P w)
 rw [Oper.semAt_none, hrun, Oper.uponIn_round]
 refine ⟨fun h => by simp [RF, Fence.wide] at h, ?_⟩
 exact yield_round hs hti ht hpn he hps hr hR hsz (fun i c v hc hv => hm.2 i c v hc hv) hk fun e b' γ' w' h1 h2 h3 h4 => hX e b' γ' w' h1 h2 h3 h4
end
def IterT (P : Program) (G : Nat → Option (List V)) (c : Code) (m : Nat) (args : Nat → List V) (bi : Nat → Option Blk) (L : YL) (R : Exit → (Nat → Option Blk) → Prop) : Prop :=
 ∀ (fn : FuncId) (γ0 : Gh) (w0 : World) (b0 : Nat → Option Blk) (l D : Nat) (Ds : List Nat) (sz : Nat) (te : Array Value) (γ : Gh) (a : Act) (w : World),
  Env G L γ0 w0 b0 l D Ds sz te (recOf fn te L.ps L.assign L.body D .normal) γ bi uTop w → Sim G γ (entry m (args l) bi) a.tmps w → a.defers = [] →
  CW none P c (fun e a' w' => (e = .normal ∨ e = .ret) ∧ ∃ e2 b' γ' ni ti tm, R e2 b' ∧ Env G L γ0 w0 b0 l D Ds sz te (recOf fn te L.ps L.assign L.body D e2) γ' b' uTop w' ∧ Sim G γ' (susp ni ti b') tm w' ∧ MarksI sz γ' w' a'.defers) a w
theorem heap_alloc (w : World) (o : Obj) (B : Nat) (hB : B < w.heap.size) : (w.alloc o).heap[B]? = w.heap[B]? := by
 show (w.heap.push o)[B]? = _
 rw [Array.getElem?_push, if_neg (by omega)]
theorem Grow.alloc (γ : Gh) (w : World) (o : Obj) : Grow γ w γ (w.alloc o) ∧ CellsSame w (w.alloc o) := by
 have cs : CellsSame w (w.alloc o) := ⟨by simp, fun B cs e fz h => by
  have := (Array.getElem?_eq_some_iff.1 h).1
  exact (heap_alloc w o B this).trans h, fun B es c h => by
  have := (Array.getElem?_eq_some_iff.1 h).1
  exact (heap_alloc w o B this).trans h⟩
 exact ⟨(Grow.refl γ w).same cs (fun B hB => heap_alloc w o B hB) rfl rfl rfl, cs⟩
section
variable {P : Program} {G : Nat → Option (List V)}
theorem enter_law {L : YL} (fn : FuncId) {fx : Fx} {γ : Gh} {st : St} {a : Act} {w : World} (hs : Sim G γ st a.tmps w) (hx : FxOk fx γ a.defers w) :
  ∃ (l D : Nat) (Ds : List Nat) (w1 : World), (Instr.enterLoop fn a.tmps L.ps L.assign L.body fx.ro).run P w = .ok (l, Ds.map markD) w1 ∧ Ds.Nodup ∧ w1.heap[l]? = some (.loop (recOf fn a.tmps L.ps L.assign L.body D .normal)) ∧
   (Grow γ w γ w1 ∧ CellsSame w w1) ∧ γ.own l = none ∧ (w.heap.size ≤ l ∧ l < w1.heap.size) ∧ ∀ E, E ∈ Ds → w1.heap[E]? = some (.deferred (some [])) ∧ γ.own E = none ∧ w.heap.size ≤ E ∧ E < w1.heap.size ∧ E ≠ l := by
 have hnone : ∀ B, w.heap.size ≤ B → γ.own B = none := fun B hB => by
  cases ho : γ.own B with
  | none => rfl
  | some x => have := hs.o B x ho; omega
 cases hro : fx.ro with
 | none =>
  have hL : ((w.alloc (.deferred (some []))).alloc (.loop (recOf fn a.tmps L.ps L.assign L.body w.heap.size .normal))).heap[w.heap.size + 1]? = some (.loop (recOf fn a.tmps L.ps L.assign L.body w.heap.size .normal)) := by
   have := World.alloc_heap_new (w.alloc (.deferred (some []))) (.loop (recOf fn a.tmps L.ps L.assign L.body w.heap.size .normal)); rwa [World.size_alloc] at this
  have hD : ((w.alloc (.deferred (some []))).alloc (.loop (recOf fn a.tmps L.ps L.assign L.body w.heap.size .normal))).heap[w.heap.size]? = some (.deferred (some [])) :=
   (heap_alloc _ _ _ (by simp)).trans (World.alloc_heap_new w _)
  obtain ⟨x1, x2⟩ := Grow.alloc γ w (.deferred (some []))
  obtain ⟨y1, y2⟩ := Grow.alloc γ (w.alloc (.deferred (some []))) (.loop (recOf fn a.tmps L.ps L.assign L.body w.heap.size .normal))
  refine ⟨w.heap.size + 1, w.heap.size, [w.heap.size], _, run_enterLoop_outer _ _ _ _ _, by simp, hL, ⟨x1.trans y1, x2.trans y2⟩, hnone _ (by omega), ⟨by omega, (Array.getElem?_eq_some_iff.1 hL).1⟩, fun E hE => ?_⟩
  simp only [List.mem_singleton] at hE
  subst hE
  exact ⟨hD, hnone _ (Nat.le_refl _), Nat.le_refl _, (Array.getElem?_eq_some_iff.1 hD).1, by omega⟩
 | some l0 =>
  obtain ⟨⟨r0, h0⟩, _⟩ := hx.2.2 l0 hro
  have hL := World.alloc_heap_new w (.loop (recOf fn a.tmps L.ps L.assign L.body r0.defers .normal))
  exact ⟨w.heap.size, r0.defers, [], _, run_enterLoop_inner h0 _ _ _ _ _, by simp, hL, Grow.alloc γ w _, hnone _ (Nat.le_refl _), ⟨Nat.le_refl _, (Array.getElem?_eq_some_iff.1 hL).1⟩, fun E hE => by simp at hE⟩
end
structure YS where
 x : Exit
 st : St
def YPost (G : Nat → Option (List V)) (L : YL) (l : Nat) (fn : FuncId) (γ0 : Gh) (w0 : World) (b0 : Nat → Option Blk) (D : Nat) (Ds : List Nat) (sz : Nat) (te : Array Value) (Q : Exit → YS → Prop) (e : Exit) (a' : Act) (w' : World) : Prop :=
 ∃ s' γ', MarksI sz γ' w' a'.defers ∧ Env G L γ0 w0 b0 l D Ds sz te (recOf fn te L.ps L.assign L.body D s'.x) γ' s'.st.b s'.st.u w' ∧ Sim G γ' s'.st a'.tmps w' ∧ Q e s'
def YT (P : Program) (G : Nat → Option (List V)) (L : YL) (l : Nat) (c : Code) (s : YS) (Q : Exit → YS → Prop) : Prop :=
 ∀ (fn : FuncId) (γ0 : Gh) (w0 : World) (b0 : Nat → Option Blk) (D : Nat) (Ds : List Nat) (sz : Nat) (te : Array Value) (γ : Gh) (a : Act) (w : World),
  Env G L γ0 w0 b0 l D Ds sz te (recOf fn te L.ps L.assign L.body D s.x) γ s.st.b s.st.u w → Sim G γ s.st a.tmps w → MarksI sz γ w a.defers →
  CW none P c (YPost G L l fn γ0 w0 b0 D Ds sz te Q) a w
def thenY (next : YS → Prop) (Q : Exit → YS → Prop) : Exit → YS → Prop
 | .normal, s => next s
 | e, s => Q e s
def inBlockY (id : Nat) (Q : Exit → YS → Prop) : Exit → YS → Prop
 | .exit id', s => if id' = id then Q .normal s else Q (.exit id') s
 | e, s => Q e s
section
variable {P : Program} {G : Nat → Option (List V)} {L : YL} {l : Nat} {s : YS} {Q : Exit → YS → Prop}
theorem YT.tv {c : Code} {Q1 : Exit → St → Prop} (h : TV P G c s.st Q1) (hq : ∀ e st, Q1 e st → Q e ⟨s.x, st⟩) : YT P G L l c s Q := fun fn γ0 w0 b0 D Ds sz te γ a w he hs hd =>
 wpIn_mono (h ⟨none, a.defers, true⟩ γ a w hs (FxOk.free γ w)) fun e a' w' hl => by
  obtain ⟨st', γ', h1, ⟨h2, h2p⟩, h3, h4⟩ := hl
  exact ⟨⟨s.x, st'⟩, γ', hd.trans h2 h3 he.lo.2.2.2, he.step h2 h2p, h1, hq e st' h4⟩
theorem YT.seq {x y : Code} (h : YT P G L l x s (thenY (fun s => YT P G L l y s Q) Q)) : YT P G L l (.seq x y) s Q := fun fn γ0 w0 b0 D Ds sz te γ a w he hs hd => by
 refine wpIn_seq (wpIn_mono (h fn γ0 w0 b0 D Ds sz te γ a w he hs hd) fun e a' w' hl => ?_)
 obtain ⟨s', γ', h1, h2, h3, h4⟩ := hl
 cases e with
 | normal => exact h4 fn γ0 w0 b0 D Ds sz te γ' a' w' h2 h3 h1
 | _ => exact ⟨s', γ', h1, h2, h3, h4⟩
theorem YT.cond {o : Operand} {x y : Code} {b : Bool} (hc : s.st.ev G o = some (.bool b)) (h : YT P G L l (if b then x else y) s Q) : YT P G L l (.cond o x y) s Q := fun fn γ0 w0 b0 D Ds sz te γ a w he hs hd =>
 wpIn_cond ((hs.ev hc).bool_inv) (h fn γ0 w0 b0 D Ds sz te γ a w he hs hd)
theorem YT.block {id : Nat} {c : Code} (h : YT P G L l c s (inBlockY id Q)) : YT P G L l (.block id c) s Q := fun fn γ0 w0 b0 D Ds sz te γ a w he hs hd => by
 refine wpIn_block (wpIn_mono (h fn γ0 w0 b0 D Ds sz te γ a w he hs hd) fun e a' w' hl => ?_)
 obtain ⟨s', γ', h1, h2, h3, h4⟩ := hl
 cases e with
 | exit id' =>
  simp only [inBlockY] at h4
  simp only [Exit.inBlock]
  split
  ·rename_i he; rw [if_pos he] at h4; exact ⟨s', γ', h1, h2, h3, h4⟩
  ·rename_i he; rw [if_neg he] at h4; exact ⟨s', γ', h1, h2, h3, h4⟩
 | _ => exact ⟨s', γ', h1, h2, h3, h4⟩
theorem YT.skip (h : Q .normal s) : YT P G L l .skip s Q := fun _ _ _ _ _ _ _ _ γ _ _ he hs hd => wpIn_skip ⟨s, γ, hd, he, hs, h⟩
theorem YT.exit {id : Nat} (h : Q (.exit id) s) : YT P G L l (.exit id) s Q := fun _ _ _ _ _ _ _ _ γ _ _ he hs hd => wpIn_exit ⟨s, γ, hd, he, hs, h⟩
theorem YT.loop {c : Code} (I : Nat → YS → Prop) (round : ∀ n s, I n s → YT P G L l c s (thenY (fun s' => ∃ m, m < n ∧ I m s') Q)) {n : Nat} (h : I n s) : YT P G L l (.loop c) s Q := fun fn γ0 w0 b0 D Ds sz te γ a w he hs hd => by
 refine cw_loopN (fun n a' w' => YPost G L l fn γ0 w0 b0 D Ds sz te (fun _ s => I n s) .normal a' w') (fun n a' w' hI => ?_) n a w ⟨s, γ, hd, he, hs, h⟩
 obtain ⟨s', γ', h1, h2, h3, h4⟩ := hI
 refine wpIn_mono (round n s' h4 fn γ0 w0 b0 D Ds sz te γ' a' w' h2 h3 h1) fun e a2 w2 hl => ?_
 obtain ⟨s2, γ2, k1, k2, k3, k4⟩ := hl
 cases e with
 | normal => obtain ⟨m, hm, hI⟩ := k4; exact ⟨m, hm, s2, γ2, k1, k2, k3, hI⟩
 | _ => exact ⟨s2, γ2, k1, k2, k3, k4⟩
theorem YT.gst {c : Code} {x : Exit} {st st' : St} (g : Gst G st st') (h : YT P G L l c ⟨x, st'⟩ Q) : YT P G L l c ⟨x, st⟩ Q := fun fn γ0 w0 b0 D Ds sz te γ a w he hs hd => by
 obtain ⟨γ', h1, h2, h3⟩ := g γ a.tmps w hs
 exact h fn γ0 w0 b0 D Ds sz te γ' a w (he.step h2 h3) h1 (hd.grow h2)
def YTops (P : Program) (G : Nat → Option (List V)) (L : YL) (l : Nat) (ops : Array Oper) (is : List Nat) (s : YS) (Q : Exit → YS → Prop) : Prop :=
 ∀ (fn : FuncId) (γ0 : Gh) (w0 : World) (b0 : Nat → Option Blk) (D : Nat) (Ds : List Nat) (sz : Nat) (te : Array Value) (γ : Gh) (a : Act) (w : World),
  Env G L γ0 w0 b0 l D Ds sz te (recOf fn te L.ps L.assign L.body D s.x) γ s.st.b s.st.u w → Sim G γ s.st a.tmps w → MarksI sz γ w a.defers →
  wpOpsIn (RF none) 0 P ops (YPost G L l fn γ0 w0 b0 D Ds sz te Q) is a w
theorem YT.region {id : Nat} {ops : Array Oper} (h : YTops P G L l ops (List.range ops.size) s Q) : YT P G L l (.region id ops false) s Q := fun fn γ0 w0 b0 D Ds sz te γ a w he hs hd => wpIn_region (h fn γ0 w0 b0 D Ds sz te γ a w he hs hd)
theorem YTops.nil {ops : Array Oper} (h : Q .normal s) : YTops P G L l ops [] s Q := fun _ _ _ _ _ _ _ _ γ _ _ he hs hd => ⟨s, γ, hd, he, hs, h⟩
theorem YTops.gst {ops : Array Oper} {is : List Nat} {x : Exit} {st st' : St} (g : Gst G st st') (h : YTops P G L l ops is ⟨x, st'⟩ Q) : YTops P G L l ops is ⟨x, st⟩ Q := fun fn γ0 w0 b0 D Ds sz te γ a w he hs hd => by
 obtain ⟨γ', h1, h2, h3⟩ := g γ a.tmps w hs
 exact h fn γ0 w0 b0 D Ds sz te γ' a w (he.step h2 h3) h1 (hd.grow h2)
theorem wpOpsIn_append {F : Fence} {n : Nat} {ops : Array Oper} {Q : Exit → Act → World → Prop} (js : List Nat) : ∀ (is : List Nat) (a : Act) (w : World), wpOpsIn F n P ops (fun e a w => e = .normal ∧ wpOpsIn F n P ops Q js a w) is a w → wpOpsIn F n P ops Q (is ++ js) a w
 | [], a, w, h => h.2
 | i :: is, a, w, h => by
  have ih := wpOpsIn_append (F := F) (n := n) (ops := ops) (Q := Q) js is
  simp only [wpOpsIn, List.cons_append] at h ⊢
  split
  ·rename_i hi; rw [hi] at h; exact ih a w h
  ·rename_i o hi
   rw [hi] at h
   simp only at h ⊢
   split
   ·rename_i hw
    rw [if_pos hw] at h
    refine ⟨h.1, ?_⟩
    have h := h.2
    unfold Oper.uponIn at h ⊢
    split at h
    ·exact ih _ _ h
    ·exact ih _ _ h
    ·exact ih _ _ h
    ·refine ⟨h.1, CallsIn.mono h.2 fun e w' hr => ?_⟩
     cases e with
     | returned v => exact ih _ _ hr
     | panicked ch => exact absurd hr.1 (by simp)
     | outgrown => obtain ⟨a0, w0, h2⟩ := hr; exact absurd h2.1 (by simp)
    ·exact ⟨h.1, RowsIn.mono h.2 fun v w' hr => ih _ _ hr⟩
    ·refine ⟨h.1, RoundIn.mono h.2 fun e w' hr => ?_⟩
     cases e with
     | returned v => exact ih _ _ hr
     | panicked ch => exact absurd hr.1 (by simp)
     | outgrown => obtain ⟨a0, w0, h2⟩ := hr; exact absurd h2.1 (by simp)
    ·exact absurd h.1 (by simp)
    ·exact h.elim
   ·rename_i hw; rw [if_neg hw] at h; exact ⟨h.1, ih _ _ h.2⟩
theorem YTops.tv {ops : Array Oper} {is js : List Nat} {Q1 : Exit → St → Prop} (h : TVops P G ops is s.st Q1) (hq : ∀ e st, Q1 e st → e = .normal ∧ YTops P G L l ops js ⟨s.x, st⟩ Q) : YTops P G L l ops (is ++ js) s Q := fun fn γ0 w0 b0 D Ds sz te γ a w he hs hd => by
 refine wpOpsIn_append js is a w (wpOpsIn_mono (fun e a' w' hl => ?_) is a w (h ⟨none, a.defers, true⟩ γ a w hs (FxOk.free γ w)))
 obtain ⟨st', γ', h1, ⟨h2, h2p⟩, h3, h4⟩ := hl
 obtain ⟨rfl, h5⟩ := hq e st' h4
 exact ⟨rfl, h5 fn γ0 w0 b0 D Ds sz te γ' a' w' (he.step h2 h2p) h1 (hd.trans h2 h3 he.lo.2.2.2)⟩
theorem YTops.step {ops : Array Oper} {i : Nat} {is : List Nat} {st' : St} (h : stepG P G ops i s.st = some st') (hr : YTops P G L l ops is ⟨s.x, st'⟩ Q) : YTops P G L l ops (i :: is) s Q :=
 YTops.tv (is := [i]) (js := is) (Q1 := fun e st => e = .normal ∧ st = st') (TVops.cons (stepG_spec h) (TVops.nil ⟨rfl, rfl⟩)) fun e st hq => by
  obtain ⟨rfl, rfl⟩ := hq
  exact ⟨rfl, hr⟩
theorem IterT.of {c : Code} {m : Nat} {args : Nat → List V} {bi : Nat → Option Blk} {R : Exit → (Nat → Option Blk) → Prop}
  (h : ∀ l, YT P G L l c ⟨.normal, entry m (args l) bi⟩ (fun e s => (e = .normal ∨ e = .ret) ∧ ∃ ni ti b', Gst G s.st (susp ni ti b') ∧ R s.x b')) : IterT P G c m args bi L R := fun fn γ0 w0 b0 l D Ds sz te γ a w he hs hd =>
 wpIn_mono (h l fn γ0 w0 b0 D Ds sz te γ a w he hs (by rw [hd]; exact MarksI.nil)) fun e a' w' hl => by
  obtain ⟨s', γ', h1, h2, h3, h4, ni, ti, b', h5, h6⟩ := hl
  obtain ⟨γ2, k1, k2, k3⟩ := h5 γ' a'.tmps w' h3
  exact ⟨h4, s'.x, b', γ2, ni, ti, a'.tmps, h6, h2.step k2 k3, k1, h1.grow k2⟩
end
end Go.EV
namespace Go.EV
open Go
def Piece (P : Program) (G : Nat → Option (List V)) (kp : List Nat) (n : Nat) (c : Code) (x : Ext) {ρ : Type} (g : T P G ρ) (E : ρ → Ext) : Prop :=
 (x.ok, sx P G kp 100000 ρ (.mid E) g (.inl c) [] (x.D n)) = (true, g.expect (.mid E))
theorem Piece.tv {P : Program} {G : Nat → Option (List V)} {kp : List Nat} {n : Nat} {c : Code} {x : Ext} {ρ : Type} {g : T P G ρ} {E : ρ → Ext} (h : Piece P G kp n c x g E) (hm : P.follows .mixedOrders = true) {r : ρ} (hr : g.run = some r) (hE : (E r).ok = true) :
  TV P G c (x.D n).st (fun e s => e = (E r).ex ∧ Gst G s ((E r).D n).st) := by
 simp only [Piece, Prod.mk.injEq] at h
 have key : TV P G c (x.D n).st (goal P (.mid E) r n) := sx_ok hm 100000 _ _ _ _ _ _ _ (extD_ok h.1) h.2 hr
 refine key.mono fun e s hg => ?_
 obtain ⟨g1, g2, g3, g4⟩ := hg
 have f := ext_ghost (G := G) (s := s) hE g3 g4
 rw [g2] at f
 exact ⟨g1, f⟩
theorem TVops.planM {P : Program} {G : Nat → Option (List V)} {ops : Array Oper} {Q : Exit → St → Prop} {p : Plan} {st : St} {m : Nat} (h : ∀ i, i < m → StepL P G ops i (along p st i) (p.rs i) (p.ws i)) (hq : Q .normal (along p st m)) :
  ∀ n k, k + n = m → TVops P G ops (List.range' k n) (along p st k) Q
 | 0, k, hk => by
  have : k = m := by omega
  subst this; exact TVops.nil hq
 | n + 1, k, hk => by
  rw [List.range'_succ]
  exact TVops.cons (h k (by omega) _ rfl (fun l _ => eqAt.refl _ l)) (TVops.planM h hq n (k + 1) (by omega))
theorem TVops.rel {P : Program} {G : Nat → Option (List V)} {ops : Array Oper} {l : List Nat} {st : St} {Q Q' : Exit → St → Prop} (h : TVops P G ops l st Q') (hq : ∀ e s, Q' e s → Rel P G Q e s) : TVops P G ops l st Q := fun fx γ a w hs hd =>
 wpOpsIn_mono (fun e a' w' hl => by
  obtain ⟨st', γ', h1, h2, h3, h4⟩ := hl
  exact (hq e st' h4 ⟨fx.ro, a'.defers, fx.mx⟩ γ' a' w' h1 rfl).grow2 h2 h3) l a w (h fx γ a w hs hd)
def PieceOps (P : Program) (G : Nat → Option (List V)) (kp : List Nat) (n id : Nat) (ops : Array Oper) (m : Nat) (x : Ext) {ρ : Type} (g : T P G ρ) (E : ρ → Ext) : Prop :=
 (x.ok, rg P G id ops (List.range' 0 m) g (x.D n).st [] (x.D n).sy fun g s p sy => regEnd kp (x.D n) s p sy fun d' => sx P G kp 100 ρ (.mid E) g (.inr .normal) [] d') = (true, g.expect (.mid E))
theorem PieceOps.tv {P : Program} {G : Nat → Option (List V)} {kp : List Nat} {n id : Nat} {ops : Array Oper} {m : Nat} {x : Ext} {ρ : Type} {g : T P G ρ} {E : ρ → Ext} (h : PieceOps P G kp n id ops m x g E) (hm : P.follows .mixedOrders = true) {r : ρ} (hr : g.run = some r) (hE : (E r).ok = true) :
  TVops P G ops (List.range' 0 m) (x.D n).st (fun e s => e = (E r).ex ∧ Gst G s ((E r).D n).st) := by
 simp only [PieceOps, Prod.mk.injEq] at h
 have hd := extD_ok (n := n) h.1
 obtain ⟨g', s, p, sy', x1, x2, x3, x4, x5⟩ := rg_sound (st0 := (x.D n).st) m g (x.D n).st [] (x.D n).sy h.2 hr ⟨rfl, fun j hj => by simp at hj⟩ hd.sy
 simp only [List.length_nil, Nat.zero_add] at x5
 have hs : s = along p (x.D n).st m := by rw [← x5]; exact x3.1
 obtain ⟨d', y1, y2, y3, y4⟩ := regEnd_spec x1 (fun j => expect_ns _ g' j) hd hs x4
 have hq : Rel P G (goal P (.mid E) r d'.n) .normal d'.st := sx_ok hm 100 _ _ _ _ _ _ _ y2 y1 x2
 rw [y4] at hq
 have key := TVops.planM (Q := fun e s' => e = .normal ∧ s' = s) (m := m) (fun i hi => x3.2 i (by omega)) ⟨rfl, hs.symm⟩ m 0 (by omega)
 refine TVops.rel key fun e s' he => ?_
 obtain ⟨rfl, rfl⟩ := he
 refine (hq.forget y3).mono fun s2 hg => ?_
 obtain ⟨g1, g2, g3, g4⟩ := hg
 have f := ext_ghost (G := G) (s := s2) hE g3 g4
 rw [show s2.n = n from g2] at f
 exact ⟨g1, f⟩
def tOf (ts : List (Nat × V)) (i : Nat) : V := match ts.find? (fun p => p.1 == i) with | some p => p.2 | none => .undef
theorem ext_susp {x : Ext} (h : (x.bs.all fun p => decide (1000000 ≤ p.1)) = true) (n : Nat) : (x.D n).st = susp n (tOf x.ts) (ofL x.bs) := by
 have hu : (fun i => x.us.contains i || uTop i) = uTop := funext fun i => by
  cases hu : uTop i with
  | true => simp
  | false =>
   simp only [Bool.or_false]
   refine Bool.eq_false_iff.2 fun hc => ?_
   simp only [Ext.us, List.contains_eq_mem, decide_eq_true_eq] at hc
   obtain ⟨p, hp, rfl⟩ := List.mem_map.1 hc
   have := List.all_eq_true.1 h p hp
   simp [uTop] at hu
   simp at this
   omega
 show (⟨n, tOf x.ts, ofL x.bs, fun i => x.us.contains i || uTop i⟩ : St) = ⟨n, tOf x.ts, ofL x.bs, uTop⟩
 rw [hu]
theorem tOf_ok {u : Nat → Bool} {ts : List (Nat × V)} (h : (ts.all fun p => okV u p.2) = true) (i : Nat) : okV u (tOf ts i) = true := by
 unfold tOf
 cases hf : ts.find? (fun p => p.1 == i) with
 | none => rfl
 | some p => exact List.all_eq_true.1 h p (List.mem_of_find?_eq_some hf)
theorem setP_susp (n : Nat) (ts : List (Nat × V)) (b : Nat → Option Blk) (p : Nat) (c : V) : setP (susp n (tOf ts) b) [(p, c)] = susp n (tOf ((p, c) :: ts)) b := by
 unfold setP susp tOf
 simp only [List.foldl, St.setT, St.mk.injEq, true_and, and_true]
 funext i
 rw [List.find?_cons]
 by_cases h : i = p
 ·subst h; simp
 ·have : (p == i) = false := by simpa using fun e => h e.symm
  rw [if_neg h]
  simp only [this]
theorem entry_ext {args : List V} {x : Ext} (hx : x.ts = argTs args) (hb : (x.bs.all fun p => decide (1000000 ≤ p.1)) = true) (n : Nat) : (x.D n).st = entry n args (ofL x.bs) := by
 rw [ext_susp hb, hx]
 unfold susp entry
 simp only [St.mk.injEq, true_and, and_true]
 exact funext fun i => argTs_find args 0 i
theorem callC_of_TV {P : Program} {G : Nat → Option (List V)} {f : FuncId} {fn : Func} {c : Code} {n : Nat} {args : List V} {ins : Nat → Option Blk} {res : V} {outs : Nat → Option Blk}
  (hf : P.funcs[f]? = some fn) (hb : fn.body = some c) (hn : n = max fn.ntmps args.length) (hc : coeV 8 res res = res) (h : TV P G c (entry n args ins) (Done P fn.results.toList res outs)) : CallC P G f args ins res outs :=
 callC_body hf hb hn fun γ a w hs hd => wpIn_mono (h ⟨none, [], true⟩ γ a w hs ⟨hd, rfl, fun _ h => by simp at h⟩) fun e a' w' hl => ⟨res, hc, hl⟩
theorem YT.piece {P : Program} {G : Nat → Option (List V)} {L : YL} {l : Nat} {kp : List Nat} {n : Nat} {c : Code} {x : Ext} {ρ : Type} {g : T P G ρ} {E : ρ → Ext} {y : Exit} {Q : Exit → YS → Prop}
  (h : Piece P G kp n c x g E) (hm : P.follows .mixedOrders = true) {r : ρ} (hr : g.run = some r) (hE : (E r).ok = true) (hq : ∀ s, Gst G s ((E r).D n).st → Q (E r).ex ⟨y, s⟩) : YT P G L l c ⟨y, (x.D n).st⟩ Q :=
 YT.tv (h.tv hm hr hE) fun e st hg => by rw [hg.1]; exact hq st hg.2
end Go.EV
namespace Go.EV
open Go
def sh (b : Nat) : Nat := 1000000 + b
def un (b : Nat) : Nat := (b / 1000000 - 1) * 1000000 + b % 1000000
theorem un_sh (b : Nat) : un (sh b) = b := by unfold un sh; omega
theorem sh_un {b : Nat} (h : 1000000 ≤ b) : sh (un b) = b := by unfold un sh; omega
theorem le_sh (b : Nat) : 1000000 ≤ sh b := by unfold sh; omega
attribute [irreducible] sh un
theorem uTop_of {b : Nat} (h : 1000000 ≤ b) : uTop b = true := by unfold uTop; exact decide_eq_true h
theorem uTop_sh (b : Nat) : uTop (sh b) = true := uTop_of (le_sh b)
mutual
theorem refsV_ren (s : Nat → Nat) : ∀ c : V, refsV (renV s c) = (refsV c).map s
 | .ref b o l => rfl
 | .ptr b i o => rfl
 | .mp b => rfl
 | .fn f a c => by simp only [renV, refsV, List.map_append]; rw [refsL_ren s a, refsL_ren s c]
 | .agg l => by simp only [renV, refsV]; exact refsL_ren s l
 | .tup l => by simp only [renV, refsV]; exact refsL_ren s l
 | .int _ _ => rfl
 | .bool _ => rfl
 | .str _ => rfl
 | .nilp => rfl
 | .nilf => rfl
 | .yld _ => rfl
 | .nilsl => rfl
 | .sl _ _ _ => rfl
 | .snap _ => rfl
 | .undef => rfl
theorem refsL_ren (s : Nat → Nat) : ∀ l : List V, refsL (renL s l) = (refsL l).map s
 | [] => rfl
 | c :: l => by simp only [renL, refsL, List.map_append]; rw [refsV_ren s c, refsL_ren s l]
end
mutual
theorem renV_back (s r : Nat → Nat) (h : ∀ b, s (r b) = b) : ∀ c : V, renV s (renV r c) = c
 | .ref b o l => by simp [renV, h]
 | .ptr b i o => by simp [renV, h]
 | .mp b => by simp [renV, h]
 | .fn f a c => by simp only [renV]; rw [renL_back s r h a, renL_back s r h c]
 | .agg l => by simp only [renV]; rw [renL_back s r h l]
 | .tup l => by simp only [renV]; rw [renL_back s r h l]
 | .int _ _ => rfl
 | .bool _ => rfl
 | .str _ => rfl
 | .nilp => rfl
 | .nilf => rfl
 | .yld _ => rfl
 | .nilsl => rfl
 | .sl _ _ _ => rfl
 | .snap _ => rfl
 | .undef => rfl
theorem renL_back (s r : Nat → Nat) (h : ∀ b, s (r b) = b) : ∀ l : List V, renL s (renL r l) = l
 | [] => rfl
 | c :: l => by simp only [renL]; rw [renV_back s r h c, renL_back s r h l]
end
theorem Blk.ren_back (s r : Nat → Nat) (h : ∀ b, s (r b) = b) (k : Blk) : (k.ren r).ren s = k := by
 obtain ⟨z, e, rows⟩ := k
 simp only [Blk.ren, List.map_map]
 congr 1
 have : (renL s ∘ renL r) = id := funext fun l => renL_back s r h l
 rw [this, List.map_id]
def shB (b : Nat → Option Blk) (i : Nat) : Option Blk := if 1000000 ≤ i then (b (un i)).map (Blk.ren sh) else none
theorem shB_sh (b : Nat → Option Blk) (i : Nat) : shB b (sh i) = (b i).map (Blk.ren sh) := by
 unfold shB
 rw [if_pos (le_sh _), un_sh]
def St.shift (st : St) : St := susp st.n (fun i => renV sh (st.t i)) (shB st.b)
def Owner.sh : Owner → Owner
 | .blk b => .blk (EV.sh b)
 | .nest b i j => .nest (EV.sh b) i j
def Gh.shift (γ : Gh) : Gh where
 loc := fun i => if 1000000 ≤ i then γ.loc (un i) else none
 own := fun B => (γ.own B).map Owner.sh
 lim := γ.lim
theorem Sim.shift {G : Nat → Option (List V)} {γ : Gh} {st : St} {tmps : Array Value} {w : World} (hs : Sim G γ st tmps w) : Sim G γ.shift st.shift tmps w := by
 have loc : ∀ b, γ.shift.loc (sh b) = γ.loc b := fun b => by simp only [Gh.shift]; rw [if_pos (le_sh _), un_sh]
 have tr : ∀ b, Tr γ st.b st.u γ.shift (shB st.b) uTop sh b := fun b => by
  refine ⟨fun k hk => ⟨k.ren sh, by rw [shB_sh, hk]; rfl, rfl, by simp [Blk.ren], loc b⟩, fun hn _ => ⟨by rw [shB_sh, hn]; rfl, uTop_sh b⟩⟩
 refine ⟨hs.n, fun i => Rep.ren (γ1 := γ) (γ2 := γ.shift) (w := w) (w' := w) (bs1 := st.b) (u1 := st.u) (bs2 := shB st.b) (u2 := uTop) (s := sh) (fun B o v h1 h2 => ⟨h1, h2⟩) (fun _ _ h => h) (hs.t i) (fun b _ => tr b), fun b k hk => ?_, fun b k hk => ?_, hs.g, fun B x hx => ?_⟩
 ·have hk' : shB st.b b = some k := hk
  unfold shB at hk'
  split at hk'
  ·rename_i hb
   obtain ⟨k0, h0, rfl⟩ := Option.map_eq_some_iff.1 hk'
   have := (hs.b _ _ h0).ren (γ2 := γ.shift) (bs2 := shB st.b) (u2 := uTop) (s := sh) (loc _) (fun _ => rfl) (fun B hB => by simp only [Gh.shift, hB]; rfl) (fun B i j hB => by simp only [Gh.shift, hB]; rfl) (fun b' _ => tr b')
   rw [sh_un hb] at this
   exact this
  ·simp at hk'
 ·have hk' : shB st.b b = some k := hk
  unfold shB at hk'
  split at hk'
  ·rename_i hb; exact uTop_of hb
  ·simp at hk'
 ·simp only [Gh.shift] at hx
  obtain ⟨y, hy, _⟩ := Option.map_eq_some_iff.1 hx
  exact hs.o B y hy
def Owner.un : Owner → Option Owner
 | .blk b => if 1000000 ≤ b then some (.blk (EV.un b)) else none
 | .nest b i j => if 1000000 ≤ b then some (.nest (EV.un b) i j) else none
def Gh.unshift (γ : Gh) : Gh where
 loc := fun i => γ.loc (sh i)
 own := fun B => (γ.own B).bind Owner.un
 lim := γ.lim
structure St.known (st : St) : Prop where
 t : ∀ i, ∀ b, b ∈ refsV (st.t i) → st.u b = true
 b : ∀ i k, st.b i = some k → st.u i = true ∧ ∀ b, b ∈ refsL k.rows.flatten → st.u b = true
theorem Sim.unshift {G : Nat → Option (List V)} {γ : Gh} {st : St} {tmps : Array Value} {w : World} (hs : Sim G γ st.shift tmps w) (hk : st.known) : Sim G γ.unshift st tmps w := by
 have tr : ∀ b0, st.u b0 = true → Tr γ (shB st.b) uTop γ.unshift st.b st.u un (sh b0) := fun b0 hu => by
  rw [Tr, un_sh, shB_sh]
  refine ⟨fun k h => ?_, fun h _ => ⟨by simpa using h, hu⟩⟩
  obtain ⟨k0, h0, rfl⟩ := Option.map_eq_some_iff.1 h
  exact ⟨k0, h0, rfl, by simp [Blk.ren], rfl⟩
 have ownB : ∀ B b0, γ.own B = some (.blk (sh b0)) → γ.unshift.own B = some (.blk b0) := fun B b0 h => by
  simp only [Gh.unshift, h, Option.bind_some, Owner.un]
  rw [if_pos (le_sh _), un_sh]
 have ownN : ∀ B b0 i j, γ.own B = some (.nest (sh b0) i j) → γ.unshift.own B = some (.nest b0 i j) := fun B b0 i j h => by
  simp only [Gh.unshift, h, Option.bind_some, Owner.un]
  rw [if_pos (le_sh _), un_sh]
 refine ⟨hs.n, fun i => ?_, fun b k hb => ?_, fun b k hb => (hk.b b k hb).1, hs.g, fun B x hx => ?_⟩
 ·have h0 : Rep γ w (shB st.b) uTop (renV sh (st.t i)) (tmps.getD i undef) := hs.t i
  have h1 := Rep.ren (γ1 := γ) (γ2 := γ.unshift) (w := w) (w' := w) (bs1 := shB st.b) (u1 := uTop) (bs2 := st.b) (u2 := st.u) (s := un) (fun B o v h1 h2 => ⟨h1, h2⟩) (fun _ _ h => h) h0 (fun b hb => by
   rw [refsV_ren] at hb
   obtain ⟨b0, hb0, rfl⟩ := List.mem_map.1 hb
   exact tr b0 (hk.t i b0 hb0))
  rw [renV_back un sh un_sh] at h1
  exact h1
 ·have hsb : shB st.b (sh b) = some (k.ren sh) := by rw [shB_sh, hb]; rfl
  have h0 : BlkOk γ w (shB st.b) uTop (sh b) (k.ren sh) := hs.b (sh b) _ hsb
  have h1 := h0.ren (γ2 := γ.unshift) (bs2 := st.b) (u2 := st.u) (s := un) (by show γ.loc (sh (un (sh b))) = _; rw [un_sh]) (fun _ => rfl) (fun B hB => by rw [un_sh]; exact ownB B b hB) (fun B i j hB => by rw [un_sh]; exact ownN B b i j hB)
   (fun b' hb' => by
    have : refsL (k.ren sh).rows.flatten = (refsL k.rows.flatten).map sh := by
     show refsL ((k.rows.map (renL sh)).flatten) = _
     rw [ren_flatten, refsL_ren]
    rw [this] at hb'
    obtain ⟨b0, hb0, rfl⟩ := List.mem_map.1 hb'
    exact tr b0 ((hk.b b k hb).2 b0 hb0))
  rw [un_sh, Blk.ren_back un sh un_sh] at h1
  exact h1
 ·simp only [Gh.unshift] at hx
  obtain ⟨y, hy, _⟩ := Option.bind_eq_some_iff.1 hx
  exact hs.o B y hy
theorem Lift.unshift {G : Nat → Option (List V)} {fx : Fx} {γ : Gh} {st : St} {w : World} {Q : Exit → St → Prop} {e : Exit} {a : Act} {w' : World}
  (h : Lift G fx γ.shift st.shift w (fun e s => ∃ s', s = s'.shift ∧ s'.u = st.u ∧ s'.known ∧ Q e s') e a w') (hsu : ∀ b k, st.b b = some k → st.u b = true) : Lift G fx γ st w Q e a w' := by
 obtain ⟨_, γ1, h1, ⟨h2, h3⟩, ⟨Ds, m0, m1, m2, m3⟩, s', rfl, hu, hk, hq⟩ := h
 have none1 : ∀ B, γ1.own B = none → γ1.unshift.own B = none := fun B hB => by simp only [Gh.unshift, hB]; rfl
 refine ⟨s', γ1.unshift, h1.unshift hk, ⟨⟨h2.os, h2.tape, h2.output, h2.size, h2.imm, h2.lim, fun B hB hn => ?_, h2.room⟩, fun b hb => ?_⟩, ⟨Ds, m0, m1, m2, fun D hD => ⟨(m3 D hD).1, (m3 D hD).2.1, none1 D (m3 D hD).2.2⟩⟩, hq⟩
 ·obtain ⟨a1, a2, a3⟩ := h2.free B hB (by simp only [Gh.shift, hn]; rfl)
  exact ⟨a1, none1 B a2, a3⟩
 ·obtain ⟨p1, p2, p3⟩ := h3 (sh b) (by simp only [uPin, Bool.and_eq_true, decide_eq_true_eq] at hb ⊢; exact ⟨le_sh b, by unfold sh; omega⟩)
  refine ⟨fun h => by rw [hu]; exact h, fun h hn => ?_, fun k hk' => ⟨?_, ?_⟩⟩
  ·have := p2 (uTop_sh b) (by show shB st.b (sh b) = none; rw [shB_sh, hn]; rfl)
   have h0 : shB s'.b (sh b) = none := this
   rw [shB_sh] at h0
   simpa using h0
  ·rw [hu]; exact hsu b k hk'
  ·obtain ⟨_, q⟩ := p3 (k.ren sh) (by show shB st.b (sh b) = _; rw [shB_sh, hk']; rfl)
   rcases q with q | ⟨k', q1, q2, q3, q4⟩
   ·have h0 : shB s'.b (sh b) = none := q
    rw [shB_sh] at h0
    exact .inl (by simpa using h0)
   ·have h0 : shB s'.b (sh b) = some k' := q1
    rw [shB_sh] at h0
    obtain ⟨k0, h00, rfl⟩ := Option.map_eq_some_iff.1 h0
    refine .inr ⟨k0, h00, q2, by simpa [Blk.ren] using q3, ?_⟩
    have q4 : γ1.loc (sh b) = γ.shift.loc (sh b) := q4
    simp only [Gh.shift] at q4
    rw [if_pos (le_sh _), un_sh] at q4
    exact q4
theorem ofL_cons (p : Nat × Blk) (l : List (Nat × Blk)) (i : Nat) : ofL (p :: l) i = if p.1 = i then some p.2 else ofL l i := by
 unfold ofL
 rw [List.find?_cons]
 by_cases h : p.1 = i
 ·simp [h]
 ·have : (p.1 == i) = false := by simpa using h
  simp only [this]
  rw [if_neg h]
theorem shB_ofL : ∀ l : List (Nat × Blk), shB (ofL l) = ofL (l.map fun p => (sh p.1, p.2.ren sh))
 | [] => funext fun i => by unfold shB ofL; split <;> rfl
 | p :: l => funext fun i => by
  have ih := congrFun (shB_ofL l) i
  rw [List.map_cons, ofL_cons]
  unfold shB at ih ⊢
  rw [ofL_cons]
  by_cases h : sh p.1 = i
  ·subst h
   rw [if_pos rfl, if_pos (le_sh _), un_sh, if_pos rfl]; rfl
  ·rw [if_neg h]
   by_cases hi : 1000000 ≤ i
   ·rw [if_pos hi] at ih ⊢
    have : ¬ p.1 = un i := fun e => h (by rw [e, sh_un hi])
    rw [if_neg this]; exact ih
   ·rw [if_neg hi] at ih ⊢; exact ih
theorem tOf_cons (p : Nat × V) (l : List (Nat × V)) (i : Nat) : tOf (p :: l) i = if p.1 = i then p.2 else tOf l i := by
 unfold tOf
 rw [List.find?_cons]
 by_cases h : p.1 = i
 ·simp [h]
 ·have : (p.1 == i) = false := by simpa using h
  simp only [this]
  rw [if_neg h]
theorem tOf_shift : ∀ l : List (Nat × V), (fun i => renV sh (tOf l i)) = tOf (l.map fun p => (p.1, renV sh p.2))
 | [] => rfl
 | p :: l => funext fun i => by
  have ih := congrFun (tOf_shift l) i
  rw [List.map_cons, tOf_cons, tOf_cons, ← ih]
  split <;> rfl
end Go.EV
namespace Go.EV
open Go
theorem TVops.eqnil {P : Program} {G : Nat → Option (List V)} {ops : Array Oper} {st : St} {Q : Exit → St → Prop} {i : Nat} {rest : List Nat} {o : Oper} {d : Nat} {t : TypeId} {x y : Operand} {b : TypeId} {own : Bool} {z : Nat} {rows : List (List V)}
  (hi : ops[i]? = some o) (hg : guardV ops st o = some true) (ho : o.op = .binOp .eql t x y b) (hd : o.dst = some d) (hdn : dstOk st.n (some d) = true) (ht : isSliceT P t = true) (hx : st.ev G x = some (.sl own z rows)) (hy : st.ev G y = some .nilsl)
  (h1 : rows = [] → TVops P G ops rest (st.put (some d) (.bool true)) Q) (h2 : TVops P G ops rest (st.put (some d) (.bool false)) Q) : TVops P G ops (i :: rest) st Q := fun fx γ a w hs hdf => by
 simp only [wpOpsIn]
 rw [hi]
 simp only
 rw [if_pos (guardV_spec hs hg)]
 have key : ∀ r : Bool, (execOp a.eval o).run P w = .ok (.value (.bool r)) w → TVops P G ops rest (st.put (some d) (.bool r)) Q → o.wpIn (RF fx.ro) 0 P a w (fun a' w' => wpOpsIn (RF fx.ro) 0 P ops (Lift G fx γ st w Q) rest a' w') (Lift G fx γ st w Q) := fun r hr hT => by
  have hw : ∀ {next : Act → World → Prop} {Q' : Exit → Act → World → Prop}, next (a.put o.dst (.bool r)) w → o.wp P a w next Q' := fun h => by
   unfold Oper.wp; rw [hr]; exact h
  refine op_in (hw (put_defers _ _ _)) (hw ?_)
  rw [hd]
  have := hT fx γ (a.put (some d) (.bool r)) w (hs.put hdn (.data (.bool r))) (by rw [put_defers]; exact hdf)
  exact wpOpsIn_mono (fun e a2 w2 hl => hl.grow (st := st) ⟨.refl γ w, Pin.refl hs.u⟩) rest _ w this
 have ev : execOp a.eval o = (do let v ← (do eqGuard .eql t x y (a.eval x) (a.eval y); binOp .eql t (a.eval x) (a.eval y)); pure (.value v)) := by simp only [execOp, ho]
 have yv := (hs.ev hy).nilsl_inv
 obtain ⟨e, hu⟩ : ∃ e, P.underlying t = some (.slice e) := by unfold isSliceT at ht; split at ht <;> simp_all
 rcases (hs.ev hx).sl_inv with ⟨a0, xv, hr⟩ | ⟨B, o', cap, vs, xv, -, -, -, -⟩
 ·cases a0 with
  | some a0 =>
   refine key false ?_ h2
   rw [ev, xv, yv, Sem.run_bind]
   have := (run_eql_op (P := P) (w := w) (t := t) (x := .slice (some a0) 0 0) (y := .slice none 0 0) (r := false) x y (fun op => by cases op <;> simp [eqGuard]) (fun d => by simp [Op.equalIn, run_underlying hu]) rfl rfl).1
   rw [this]; rfl
  | none =>
  refine key true ?_ (h1 hr)
  rw [ev, xv, yv, Sem.run_bind]
  have := (run_eql_op (P := P) (w := w) (t := t) (x := .slice none 0 0) (y := .slice none 0 0) (r := true) x y (fun op => by cases op <;> simp [eqGuard]) (fun d => by simp [Op.equalIn, run_underlying hu]) rfl rfl).1
  rw [this]; rfl
 ·refine key false ?_ h2
  rw [ev, xv, yv, Sem.run_bind]
  have := (run_eql_op (P := P) (w := w) (t := t) (x := .slice (some ⟨B, o', none⟩) rows.length cap) (y := .slice none 0 0) (r := false) x y (fun op => by cases op <;> simp [eqGuard]) (fun d => by simp [Op.equalIn, run_underlying hu]) rfl rfl).1
  rw [this]; rfl
theorem forget_ts {st : St} {n : Nat} {ts : List (Nat × V)} (hn : st.n = n) (_ : ∀ b, 1000000 ≤ b → st.u b = true) (ht : ∀ p, p ∈ ts → st.t p.1 = p.2 ∧ okV uTop p.2 = true) : Forget st ((Ext.lit .normal ts []).D n).st where
 n := hn.symm
 t := fun i => by
  show (match ts.find? (fun p => p.1 == i) with | some p => p.2 | none => .undef) = _ ∨ _
  cases hf : ts.find? (fun p => p.1 == i) with
  | none => exact .inl rfl
  | some p =>
   obtain ⟨h1, h2⟩ := find_mem hf
   obtain ⟨h3, h4⟩ := ht p h1
   subst h2
   refine .inr ⟨?_, okV_mono (u := uTop) (fun b hb => ?_) _ (by rw [h3]; exact h4)⟩
   ·show (match ts.find? (fun q => q.1 == p.1) with | some p => p.2 | none => .undef) = _
    rw [hf]; exact h3.symm
   ·rw [D.st_u]; exact okU_top (of_decide_eq_true hb)
 b := fun _ => .inl rfl
 p := fun b hb => by rw [D.st_u]; exact okU_top (uPin_le hb)
def eqNilAt (ops : Array Oper) : Option TypeId := match ops[1]? with
 | some o => match o.op, o.dst, o.guard with
  | .binOp .eql t (.tmp 3) (.const (.slice none 0 0)) _, some 4, none => some t
  | _, _, _ => none
 | none => none
theorem eqNilAt_spec {ops : Array Oper} {t : TypeId} (h : eqNilAt ops = some t) : ∃ (o : Oper) (tb : TypeId), ops[1]? = some o ∧ o.op = .binOp .eql t (.tmp 3) (.const (.slice none 0 0)) tb ∧ o.dst = some 4 ∧ o.guard = none := by
 unfold eqNilAt at h
 split at h
 ·rename_i o h1
  split at h
  ·rename_i h2 h3 h4
   simp only [Option.some.injEq] at h; subst h
   exact ⟨o, _, h1, h2, h3, h4⟩
  ·simp at h
 ·simp at h
def cloneOps0 : Option Code → Array Oper
 | some (.seq (.region _ o _) _) => o
 | _ => #[]
def cloneOps1 : Option Code → Array Oper
 | some (.seq _ (.seq (.seq (.region _ o _) _) _)) => o
 | _ => #[]
def cloneYes : Option Code → Code
 | some (.seq _ (.seq (.seq _ (.cond _ c _)) _)) => c
 | _ => .skip
def cloneRest : Option Code → Code
 | some (.seq _ (.seq _ c)) => c
 | _ => .skip
theorem clone_ok {P : Program} {G : Nat → Option (List V)} {f : FuncId} {fn : Func} {yes rest : Code} {ops0 ops1 : Array Oper} {t : TypeId} {z : Nat} {α : Type} {ty : Ty α} {l : List α} {kp : List Nat} {ρ : Type} {g : T P G ρ} {r : ρ} {hx : ([].all fun (p : Nat × Blk) => !([BT.of 7 ty z ([] ++ l)].any fun x => x.id == p.1)) = true}
  (hm : P.follows .mixedOrders = true) (hM : z < MAPS) (hf : P.funcs[f]? = some fn) (hb : fn.body = some (.seq (.region 0 ops0 false) (.seq (.seq (.region 1 ops1 false) (.cond (.tmp 4) yes .skip)) rest)))
  (hn : 8 = max fn.ntmps 1) (hr : fn.results.toList = [.tmp 2]) (z0 : ops0.size = 1) (z1 : ops1.size = 2)
  (h0 : stepG P G ops0 0 (entry 8 [.sl false z (l.map ty.c)] fun _ => none) = some ((entry 8 [.sl false z (l.map ty.c)] fun _ => none).put (some 2) .nilsl))
  (h1 : stepG P G ops1 0 ((entry 8 [.sl false z (l.map ty.c)] fun _ => none).put (some 2) .nilsl) = some (((entry 8 [.sl false z (l.map ty.c)] fun _ => none).put (some 2) .nilsl).put (some 3) (.sl false z (l.map ty.c))))
  (hq : eqNilAt ops1 = some t) (ht : isSliceT P t = true)
  (kY : Piece P G [2] 8 yes (Ext.lit .normal [(2, .nilsl)] []) (.done () : T P G Unit) (fun _ => Ext.lit .ret [(2, .nilsl)] []))
  (kR : Piece P G kp 8 rest (Ext.lit .normal [(0, .sl false z (l.map ty.c)), (2, .nilsl)] []) g (fun _ => Ext.of .ret [(2, .ref 7 0 ([] ++ l).length)] [] [BT.of 7 ty z ([] ++ l)] hx))
  (hE : (Ext.of .ret [(2, .ref 7 0 ([] ++ l).length)] [] [BT.of 7 ty z ([] ++ l)] hx).ok = true) (hrun : g.run = some r) :
  CallC P G f [.sl false z (l.map ty.c)] (ofL []) (.ref 7 0 ([] ++ l).length) (ofL [(7, ⟨z, true, ([] ++ l).map ty.c⟩)]) := by
 obtain ⟨o, tb, hi, ho, hd, hg⟩ := eqNilAt_spec hq
 refine callC_of_TV (n := 8) hf hb hn (by rfl) ?_
 rw [hr]
 have e0 : ofL [] = (fun _ => none : Nat → Option Blk) := rfl
 rw [e0]
 refine TV.seq (TV.region ?_)
 rw [z0]
 refine TVops.cons (stepG_spec h0) (TVops.nil ?_)
 show TV P G _ _ _
 refine TV.seq (TV.seq (TV.region ?_))
 rw [z1]
 refine TVops.cons (stepG_spec h1) ?_
 refine TVops.eqnil (rows := l.map ty.c) (own := false) (z := z) hi (by unfold guardV; rw [hg]) ho hd rfl ht rfl rfl (fun hnil => TVops.nil ?_) (TVops.nil ?_)
 ·
  have hl : l = [] := List.map_eq_nil_iff.1 hnil
  subst hl
  show TV P G _ _ _
  refine TV.cond (t := true) rfl ?_
  refine TV.ghost (Gst.forget (forget_ts (n := 8) (ts := [(2, .nilsl)]) rfl (fun b hb => by simp [entry, St.put, St.setT, uTop, hb]) (fun p hp => ?_))) ?_
  ·simp only [List.mem_singleton] at hp; subst hp; exact ⟨rfl, rfl⟩
  refine TV.rel (kY.tv hm (r := ()) rfl rfl) fun e s he => ?_
  obtain ⟨rfl, hs⟩ := he
  refine Rel.ghost hs (Rel.ghost (Gst.virtT (d := 7) (t := 2) z hM rfl rfl) (Rel.of ?_))
  show Done P _ _ _ _ _
  refine ⟨.inr rfl, rfl, fun b k hk => ?_⟩
  simp only [ofL, List.find?] at hk
  split at hk
  ·rename_i x hx'
   split at hx'
   ·rename_i hb'
    simp only [Option.some.injEq] at hx' hk
    subst hx'; subst hk
    have : (7 : Nat) = b := by simpa using hb'
    subst this; rfl
   ·simp at hx'
  ·simp at hk
 ·show TV P G _ _ _
  refine TV.cond (t := false) rfl (TV.skip ?_)
  show TV P G _ _ _
  refine TV.ghost (Gst.forget (forget_ts (n := 8) (ts := [(0, .sl false z (l.map ty.c)), (2, .nilsl)]) rfl (fun b hb => by simp [entry, St.put, St.setT, uTop, hb]) (fun p hp => ?_))) ?_
  ·simp only [List.mem_cons, List.not_mem_nil, or_false] at hp
   rcases hp with rfl | rfl
   ·exact ⟨rfl, rfl⟩
   ·exact ⟨rfl, rfl⟩
  refine TV.rel (kR.tv hm hrun hE) fun e s he => ?_
  obtain ⟨rfl, hs⟩ := he
  refine Rel.ghost hs (Rel.of ?_)
  show Done P _ _ _ _ _
  refine ⟨.inr rfl, rfl, fun b k hk => ?_⟩
  exact hk
end Go.EV
namespace Go.EV
open Go
theorem Ty.notOwn {α : Type} {ty : Ty α} (hs : ∀ y, ty.c y = ty.d y) (y : α) {c : V} (hc : c ∈ ty.c y) : c.isOwn = false := by
 rw [hs y, ← ty.st y] at hc
 obtain ⟨c0, _, rfl⟩ := List.mem_map.1 hc
 exact strip_own c0
def over {α : Type} (l : List α) (p : Nat) (r : List α) : List α := l.take p ++ r ++ l.drop (p + r.length)
theorem over_length {α : Type} (l : List α) (p : Nat) (r : List α) (h : p + r.length ≤ l.length) : (over l p r).length = l.length := by
 simp [over]; omega
theorem over_get {α : Type} (l : List α) (p : Nat) (r : List α) (h : p + r.length ≤ l.length) (q : Nat) : (over l p r)[q]? = if p ≤ q ∧ q < p + r.length then r[q - p]? else l[q]? := by
 unfold over
 have e1 : (l.take p).length = p := by simp; omega
 by_cases h1 : q < p
 ·rw [if_neg (by omega), List.append_assoc, List.getElem?_append_left (by omega), List.getElem?_take, if_pos h1]
 ·rw [List.append_assoc, List.getElem?_append_right (by omega), e1]
  by_cases h2 : q < p + r.length
  ·rw [if_pos (by omega), List.getElem?_append_left (by omega)]
  ·rw [if_neg (by omega), List.getElem?_append_right (by omega), List.getElem?_drop]
   congr 1; omega
theorem Sim.putRows {G : Nat → Option (List V)} {γ : Gh} {st : St} {tmps : Array Value} {w : World} (h : Sim G γ st tmps w) {α : Type} {ty : Ty α} {l r : List α} {b z p B o : Nat} {cs : Array Value} {e : TypeId} {news : List Value}
  (hk : st.b b = some ⟨z, true, l.map ty.c⟩) (hM : z < MAPS) (hs : ∀ y, ty.c y = ty.d y) (hloc : γ.loc b = some (B, o)) (hown : γ.own B = some (.blk b)) (hheap : w.heap[B]? = some (.cells cs e (0, 0)))
  (h4 : ∀ r, r ∈ l.map ty.c → r.length = z) (h5 : o + (l.map ty.c).length * z ≤ cs.size)
  (h6 : ∀ (i : Nat) (c : V), (l.map ty.c).flatten[i]? = some c → ∃ v, cs[o + i]? = some v ∧ Rep γ w st.b st.u c v ∧ v.oneCell' = true ∧ Right γ w (.nest b (i / z) (i % z)) c v) (hlim : γ.lim B = 0)
  (hp : p + r.length ≤ l.length) (hn : news.length = r.length * z) (hrz : ∀ q, q ∈ r.map ty.c → q.length = z)
  (hnew : ∀ (i : Nat) (c : V), (r.map ty.c).flatten[i]? = some c → ∃ v, news[i]? = some v ∧ Rep γ w st.b st.u c v ∧ v.oneCell' = true) :
  Sim G γ (st.setB b ⟨z, true, (over l p r).map ty.c⟩) tmps (World.setBlk w B (setRange cs (o + p * z) news) e) ∧ Grow γ w γ (World.setBlk w B (setRange cs (o + p * z) news) e) ∧
   BsLe γ st.b st.u γ (st.setB b ⟨z, true, (over l p r).map ty.c⟩).b (st.setB b ⟨z, true, (over l p r).map ty.c⟩).u := by
 have hl : (l.map ty.c).length = l.length := by simp
 rw [hl] at h5
 have hle : (p + r.length) * z ≤ l.length * z := Nat.mul_le_mul_right _ hp
 rw [Nat.add_mul] at hle
 obtain ⟨r1, r2⟩ := setRange_spec news (o + p * z) cs (by rw [hn]; omega)
 have hz' : ∀ q, q ∈ (over l p r).map ty.c → q.length = z := fun q hq => by
  obtain ⟨y, hy, rfl⟩ := List.mem_map.1 hq
  unfold over at hy
  rcases List.mem_append.1 hy with hy | hy
  ·rcases List.mem_append.1 hy with hy | hy
   ·exact h4 _ (List.mem_map.2 ⟨y, List.mem_of_mem_take hy, rfl⟩)
   ·exact hrz _ (List.mem_map.2 ⟨y, hy, rfl⟩)
  ·exact h4 _ (List.mem_map.2 ⟨y, List.mem_of_mem_drop hy, rfl⟩)
 refine h.storeBlk (k := ⟨z, true, l.map ty.c⟩) hk hM hloc hown hheap r1 hlim hz' (by simp [over_length l p r hp]) (by rw [hl]; exact h5) fun i c hc => ?_
 have hpos : 0 < z := by
  rcases Nat.eq_zero_or_pos z with h0 | h0
  ·have : ((over l p r).map ty.c).flatten = [] := by
    rw [List.flatten_eq_nil_iff]
    intro q hq
    exact List.length_eq_zero_iff.1 ((hz' q hq).trans h0)
   rw [this] at hc; simp at hc
  ·exact h0
 have ei : i = (i / z) * z + i % z := by rw [Nat.mul_comm]; exact (Nat.div_add_mod i z).symm
 have hm := Nat.mod_lt i hpos
 have hc' := hc
 rw [ei, flatten_get _ hz' _ _ hm, List.getElem?_map, over_get l p r hp] at hc'
 rw [r2, hn]
 by_cases hq : p ≤ i / z ∧ i / z < p + r.length
 ·rw [if_pos hq] at hc'
  have a1 : p * z ≤ i / z * z := Nat.mul_le_mul_right _ hq.1
  have a2 : (i / z + 1) * z ≤ (p + r.length) * z := Nat.mul_le_mul_right _ hq.2
  rw [Nat.add_mul, Nat.add_mul] at a2
  rw [if_pos (by omega)]
  have e2 : o + i - (o + p * z) = (i / z - p) * z + i % z := by
   rw [Nat.sub_mul]; omega
  have hcr : (r.map ty.c).flatten[(i / z - p) * z + i % z]? = some c := by rw [flatten_get _ hrz _ _ hm, List.getElem?_map]; exact hc'
  obtain ⟨v, v1, v2, v3⟩ := hnew _ c hcr
  obtain ⟨q, hq1, hq2⟩ := List.mem_flatten.1 (List.mem_of_getElem? hcr)
  obtain ⟨y, _, rfl⟩ := List.mem_map.1 hq1
  exact ⟨v, by rw [e2]; exact v1, v2, v3, .of_not_own (Ty.notOwn hs y hq2)⟩
 ·rw [if_neg hq] at hc'
  have hno : ¬ (o + p * z ≤ o + i ∧ o + i < o + p * z + r.length * z) := fun hx => hq (by
   constructor
   ·exact (Nat.le_div_iff_mul_le hpos).2 (by omega)
   ·exact (Nat.div_lt_iff_lt_mul hpos).2 (by rw [Nat.add_mul]; omega))
  rw [if_neg hno]
  have hcl : (l.map ty.c).flatten[i]? = some c := by rw [ei, flatten_get _ h4 _ _ hm, List.getElem?_map]; exact hc'
  exact h6 i c hcl
section
variable {P : Program} {G : Nat → Option (List V)}
def Rule.appSame {α : Type} {ty : Ty α} {t t2 e e2 : TypeId} {z : Nat} (ox oy : Operand) (d b i j m : Nat) (l : List α) (ht : P.underlying t = some (.slice e)) (ht2 : P.underlying t2 = some (.slice e2)) (hi : (P.info? e).map TypeInfo.size = some z)
    (hs : ∀ y, ty.c y = ty.d y) : Rule P G Unit where
  op := .call { callee := .builtin .append, args := #[ox, oy], argTypes := #[t, t2] }
  dst := some d
  vals := [(ox, .ref b 0 i), (oy, .ref b j m)]
  blks := [(b, ⟨z, true, l.map ty.c⟩)]
  o := bif decide (i ≤ j ∧ j + m ≤ l.length ∧ 0 < l.length) then some () else none
  ws := fun _ => [.b b (some ⟨z, true, (over l i ((l.drop j).take m)).map ty.c⟩), .t d (.ref b 0 (i + m))]
  dt := [b]
  dat := fun _ q k hm _ => by
    simp only [List.mem_cons, List.not_mem_nil, or_false, Wr.b.injEq, Option.some.injEq, reduceCtorEq] at hm
    obtain ⟨_, rfl⟩ := hm
    exact ty.data _
  ok := fun _ ho x st hop hdst hvs hb hd => effO_value fun γ a w hsim => by
    have hc : i ≤ j ∧ j + m ≤ l.length ∧ 0 < l.length := by
      cases hcc : decide (i ≤ j ∧ j + m ≤ l.length ∧ 0 < l.length) with
      | false => rw [hcc] at ho; simp at ho
      | true => simpa using hcc
    obtain ⟨hij, hjm, hpos⟩ := hc
    have hbb : st.b b = some ⟨z, true, l.map ty.c⟩ := hb (b, ⟨z, true, l.map ty.c⟩) (by simp)
    have rx : Rep γ w st.b st.u (.ref b 0 i) (a.eval ox) := hvs (ox, .ref b 0 i) (by simp) γ a w hsim
    have ry : Rep γ w st.b st.u (.ref b j m) (a.eval oy) := hvs (oy, .ref b j m) (by simp) γ a w hsim
    obtain ⟨hdn, _⟩ := hd d rfl
    obtain ⟨ei, hi2, hz⟩ := Option.map_eq_some_iff.1 hi
    subst hz
    have hll : (l.map ty.c).length = l.length := by simp
    rcases rx.ref_inv hbb with ⟨B, o, cap, hv, hl, hil, hcap, hroom, hM, hcp⟩ | ⟨B, _, _, h0, _⟩ | ⟨_, _, h0, _⟩
    · rcases hsim.b b _ hbb with ⟨v1, _⟩ | hm | ⟨_, B', o', cs, e', h1, h2, h3, h4, h5, h6, h7, h8⟩
      · rw [hl] at v1; simp at v1
      · exact (hm.small hM).elim
      rw [hl] at h1; simp only [Option.some.injEq, Prod.mk.injEq] at h1
      obtain ⟨rfl, rfl⟩ := h1
      simp only at hM hcp h4 h5 h6 h7 hv hroom
      rw [hll] at hcp
      obtain ⟨vs, so, _⟩ := ref_shape (P := P) hsim hbb (by rw [hll]; exact hjm) ry true
      have hrl : (((l.map ty.c).drop j).take m).length = m := by simp; omega
      have hlen := so.len
      have hfirst := so.first
      simp only [hrl] at hlen hfirst
      have hvl : vs.length = m * ei.size := by have := so.rd.2.1; simpa only [hrl] using this
      have hone : ∀ v, v ∈ vs → v.oneCell' = true := fun v hv => by
        obtain ⟨q, hq, rfl⟩ := List.getElem_of_mem hv
        have fl : (((l.map ty.c).drop j).take m).flatten.length = m * ei.size := by
          rw [List.length_flatten]
          have : (((l.map ty.c).drop j).take m).map List.length = List.replicate (((l.map ty.c).drop j).take m).length ei.size := List.eq_replicate_iff.2 ⟨by simp, fun x hx => by obtain ⟨r, hr, rfl⟩ := List.mem_map.1 hx; exact so.rd.1 r hr⟩
          rw [this, hrl]; simp
        obtain ⟨v, a1, _, a3, _⟩ := so.rd.2.2 q _ (List.getElem?_eq_getElem (show q < (((l.map ty.c).drop j).take m).flatten.length by rw [fl]; omega))
        rw [List.getElem?_eq_getElem hq] at a1
        simp only [Option.some.injEq] at a1
        rw [a1]; exact a3
      rw [hll] at h5
      have hle : (i + m) * ei.size ≤ l.length * ei.size := Nat.mul_le_mul_right _ (by omega)
      rw [Nat.add_mul] at hle
      have hrun := run_append_in_any (P := P) (w := w) t t2 x.type e e2 ei ht ht2 hi2 B o i cap m (a.eval oy) vs cs e' hlen hfirst (by omega) h3 hone (by rw [hvl]; omega)
      have er : ((l.drop j).take m).map ty.c = ((l.map ty.c).drop j).take m := by rw [List.map_take, List.map_drop]
      have el : ((l.drop j).take m).length = m := by simp; omega
      have hov := over_length l i ((l.drop j).take m) (by rw [el]; omega)
      have key := hsim.putRows (r := (l.drop j).take m) (p := i) (news := vs) hbb hM hs hl h2 h3 h4 (by rw [hll]; exact h5) h6 (h7 trivial) (by rw [el]; omega) (by rw [el]; exact hvl) (by rw [er]; exact so.rd.1) (by
        rw [er]; exact fun q c hc => by obtain ⟨v, v1, v2, v3, _⟩ := so.rd.2.2 q c hc; exact ⟨v, v1, v2, v3⟩)
      have pre : execOp a.eval x = (do let v ← Builtin.append_ #[t, t2] x.type #[a.eval ox, a.eval oy]; pure (.value v)) := by
        have h1 : execOp a.eval x = builtin .append #[t, t2] x.type (#[ox, oy].map fun | .const _ => true | _ => false) (#[ox, oy].map a.eval) := by
          show (execOp a.eval x) = _; unfold execOp; rw [hop]; rfl
        rw [h1]; simp [builtin]
      have ev : a.eval ox = .slice (some ⟨B, o, none⟩) i cap := by simpa using hv
      refine ⟨.slice (some ⟨B, o, none⟩) (i + m) cap, _, γ, by rw [pre, Sem.run_bind, ev, hrun, Result.andThen_ok]; rfl, key.2.1, key.2.2.pin, ?_⟩
      have hp := key.1.put (a := a) (dst := some d) (c := .ref b 0 (i + m)) (v := .slice (some ⟨B, o, none⟩) (i + m) cap) (by simpa [dstOk, St.setB] using hdn) (by
        have hr2 := key.2.1.roomAt hroom
        have := Rep.ref (γ := γ) (w := World.setBlk w B (setRange cs (o + i * ei.size) vs) e') (bs := (st.setB b ⟨ei.size, true, (over l i ((l.drop j).take m)).map ty.c⟩).b) (u := (st.setB b ⟨ei.size, true, (over l i ((l.drop j).take m)).map ty.c⟩).u) b 0 (i + m) B o cap ⟨ei.size, true, (over l i ((l.drop j).take m)).map ty.c⟩ (by simp [St.setB]) hl (by show 0 + (i + m) ≤ ((over l i ((l.drop j).take m)).map ty.c).length; rw [List.length_map, hov]; omega) (by omega) hr2 hM (by show ((over l i ((l.drop j).take m)).map ty.c).length ≤ 0 + cap; rw [List.length_map, hov]; omega)
        simpa using this)
      rw [hdst]
      exact hp
    · have h0 : (l.map ty.c).length = 0 := h0
      rw [hll] at h0; omega
    · have h0 : (l.map ty.c).length = 0 := h0
      rw [hll] at h0; omega
def Rule.appCut {α : Type} {ty : Ty α} {t t2 e e2 : TypeId} {z bytes : Nat} (ox oy : Operand) (d b i j m : Nat) (l : List α) (ht : P.underlying t = some (.slice e)) (ht2 : P.underlying t2 = some (.slice e2)) (hi : (P.info? e).map (fun i => (i.size, i.bytes)) = some (z, bytes)) (hby : 0 < bytes)
    (hz : (zeroV P e).map List.length = some z) (hs : ∀ y, ty.c y = ty.d y) : Rule P G Unit where
  op := .call { callee := .builtin .append, args := #[ox, oy], argTypes := #[t, t2] }
  dst := some d
  vals := [(ox, .ref b 0 i), (oy, .ref b j m)]
  blks := [(b, ⟨z, true, l.map ty.c⟩)]
  o := bif decide (i ≤ l.length ∧ j + m ≤ l.length ∧ (i + m) * bytes ≤ 140737488355328) then some () else none
  ws := fun _ => [.b b none, .b d (some ⟨z, true, (l.take i ++ (l.drop j).take m).map ty.c⟩), .t d (.ref d 0 (l.take i ++ (l.drop j).take m).length)]
  dt := [d]
  dat := fun _ q k hm _ => by
    simp only [List.mem_cons, List.not_mem_nil, or_false, Wr.b.injEq, Option.some.injEq, reduceCtorEq, and_false, false_or] at hm
    obtain ⟨_, rfl⟩ := hm
    exact ty.data _
  ok := fun _ ho x st hop hdst hvs hb hd => by
    have hc : i ≤ l.length ∧ j + m ≤ l.length ∧ (i + m) * bytes ≤ 140737488355328 := by
      cases hcc : decide (i ≤ l.length ∧ j + m ≤ l.length ∧ (i + m) * bytes ≤ 140737488355328) with
      | false => rw [hcc] at ho; simp at ho
      | true => simpa using hcc
    obtain ⟨h1, h2, h3⟩ := hc
    have hbb : st.b b = some ⟨z, true, l.map ty.c⟩ := hb (b, ⟨z, true, l.map ty.c⟩) (by simp)
    obtain ⟨hdn, hu⟩ := hd d rfl
    obtain ⟨ei, hi2, hz2⟩ := Option.map_eq_some_iff.1 hi
    simp only [Prod.mk.injEq] at hz2
    obtain ⟨rfl, rfl⟩ := hz2
    have el : (((l.drop j).take m).map ty.c).map (·.map V.strip) = ((l.drop j).take m).map ty.c := by
      rw [List.map_map]
      exact List.map_congr_left fun y _ => by
        show (ty.c y).map V.strip = ty.c y
        rw [hs y]; exact ty.st y
    have e1 : ((l.map ty.c).drop 0).take i = (l.take i).map ty.c := by rw [List.drop_zero, List.map_take]
    have e2 : ((l.map ty.c).drop j).take m = ((l.drop j).take m).map ty.c := by rw [List.map_take, List.map_drop]
    have hl1 : (l.take i).length = i := by simp; omega
    have hl2 : ((l.drop j).take m).length = m := by simp; omega
    have hds : dstV st.b ei.size (.ref b 0 i) = some ⟨some b, 0, ei.size, true, (l.take i).map ty.c⟩ := by
      unfold dstV
      simp only [hbb, List.length_map, Nat.zero_add, true_or, and_true, h1, if_true, e1]
    have hss : srcV st.b ei.size (some b) (.ref b j m) = some ⟨none, 0, ei.size, true, ((l.drop j).take m).map ty.c⟩ := by
      unfold srcV
      simp only [hbb, List.length_map, true_and, h2, if_true, e2, el]
    have ha : appendV P st.b t t2 (.ref b 0 i) (.ref b j m) = some (⟨some b, 0, ei.size, true, (l.take i).map ty.c⟩, ⟨none, 0, ei.size, true, ((l.drop j).take m).map ty.c⟩, ⟨ei.size, true, (l.take i).map ty.c ++ ((l.drop j).take m).map ty.c⟩) := by
      unfold appendV
      simp only [ht, ht2, hi2, hds, hss, List.length_map, hl1, hl2, h3, hby, hz, and_self, if_true]
    have := effO_append' (P := P) (G := G) (o := x) (st := st) (x := ox) (y := oy) (t := t) (t2 := t2) (d := d) hop hdst hdn hu (hvs (ox, .ref b 0 i) (by simp)) (hvs (oy, .ref b j m) (by simp)) ha
    simp only [List.length_map, ← List.map_append] at this
    rw [← List.length_append] at this
    exact this
def Rule.appPart {α : Type} {ty : Ty α} {t t2 e e2 : TypeId} {z bytes : Nat} (ox oy : Operand) (d : Nat) (dst : Option Nat) (exd : Bool) (lx : List α) (b off m : Nat) (ex : Bool) (l : List α) (ht : P.underlying t = some (.slice e)) (ht2 : P.underlying t2 = some (.slice e2))
    (hi : (P.info? e).map (fun i => (i.size, i.bytes)) = some (z, bytes)) (hby : 0 < bytes) (hz : (zeroV P e).map List.length = some z) (hs : ∀ y, ty.c y = ty.d y) (_hne : dst ≠ some b) (hnil : dst = none → lx = [] ∧ exd = true) : Rule P G Unit where
  op := .call { callee := .builtin .append, args := #[ox, oy], argTypes := #[t, t2] }
  dst := some d
  vals := [(ox, match dst with | none => .nilsl | some bx => .ref bx 0 lx.length), (oy, .ref b off m)]
  blks := (match dst with | none => [] | some bx => [(bx, ⟨z, exd, lx.map ty.c⟩)]) ++ [(b, ⟨z, ex, l.map ty.c⟩)]
  o := bif decide (off + m ≤ l.length ∧ (lx.length + m) * bytes ≤ 140737488355328) then some () else none
  ws := fun _ => (match dst with | none => [] | some bx => [.b bx none]) ++ [.b d (some ⟨z, exd, (lx ++ (l.drop off).take m).map ty.c⟩), .t d (.ref d 0 (lx ++ (l.drop off).take m).length)]
  dt := [d]
  dat := fun _ q k hm _ => by
    have key := ty.data (lx ++ (l.drop off).take m)
    cases dst <;> simp only [List.mem_cons, List.cons_append, List.nil_append, List.not_mem_nil, or_false, Wr.b.injEq, Option.some.injEq, reduceCtorEq, and_false, false_or] at hm <;> obtain ⟨_, rfl⟩ := hm <;> exact key
  ok := fun _ ho x st hop hdst hvs hb hd => by
    have hc : off + m ≤ l.length ∧ (lx.length + m) * bytes ≤ 140737488355328 := by
      cases hcc : decide (off + m ≤ l.length ∧ (lx.length + m) * bytes ≤ 140737488355328) with
      | false => rw [hcc] at ho; simp at ho
      | true => simpa using hcc
    obtain ⟨h2, h3⟩ := hc
    have hbb : st.b b = some ⟨z, ex, l.map ty.c⟩ := hb (b, ⟨z, ex, l.map ty.c⟩) (by simp)
    obtain ⟨hdn, hu⟩ := hd d rfl
    obtain ⟨ei, hi2, hz2⟩ := Option.map_eq_some_iff.1 hi
    simp only [Prod.mk.injEq] at hz2
    obtain ⟨rfl, rfl⟩ := hz2
    have el : (((l.drop off).take m).map ty.c).map (·.map V.strip) = ((l.drop off).take m).map ty.c := by
      rw [List.map_map]
      exact List.map_congr_left fun y _ => by
        show (ty.c y).map V.strip = ty.c y
        rw [hs y]; exact ty.st y
    have e2 : ((l.map ty.c).drop off).take m = ((l.drop off).take m).map ty.c := by rw [List.map_take, List.map_drop]
    have hl2 : ((l.drop off).take m).length = m := by simp; omega
    have hss : srcV st.b ei.size (some b) (.ref b off m) = some ⟨none, 0, ei.size, true, ((l.drop off).take m).map ty.c⟩ := by
      unfold srcV
      simp only [hbb, List.length_map, true_and, h2, if_true, e2, el]
    cases dst with
    | none =>
      obtain ⟨rfl, rfl⟩ := hnil rfl
      have hds : dstV st.b ei.size .nilsl = some ⟨none, 0, ei.size, true, []⟩ := rfl
      have ha : appendW P st.b t t2 (fun _ => some b) .nilsl (.ref b off m) = some (⟨none, 0, ei.size, true, []⟩, ⟨none, 0, ei.size, true, ((l.drop off).take m).map ty.c⟩, ⟨ei.size, true, [] ++ ((l.drop off).take m).map ty.c⟩) := by
        unfold appendW
        simp only [List.length_nil] at h3
        simp only [ht, ht2, hi2, hds, hss, List.length_map, List.length_nil, hl2, h3, hby, hz, and_self, if_true]
      have := effO_appendW (P := P) (G := G) (o := x) (st := st) (x := ox) (y := oy) (t := t) (t2 := t2) (d := d) hop hdst hdn hu (hvs (ox, .nilsl) (by simp)) (hvs (oy, .ref b off m) (by simp)) ha (fun _ h => by simp at h)
      simp only [List.nil_append, List.length_nil, Nat.zero_add, List.length_map] at this
      exact this
    | some bx =>
      have hbx : st.b bx = some ⟨ei.size, exd, lx.map ty.c⟩ := hb (bx, ⟨ei.size, exd, lx.map ty.c⟩) (by simp)
      have e1 : ((lx.map ty.c).drop 0).take lx.length = lx.map ty.c := by rw [List.drop_zero, ← List.length_map (f := ty.c), List.take_length]
      have hds : dstV st.b ei.size (.ref bx 0 lx.length) = some ⟨some bx, 0, ei.size, exd, lx.map ty.c⟩ := by
        unfold dstV
        simp only [hbx, List.length_map, Nat.zero_add, or_true, and_true, Nat.le_refl, if_true, e1]
      have ha : appendW P st.b t t2 (fun _ => some b) (.ref bx 0 lx.length) (.ref b off m) = some (⟨some bx, 0, ei.size, exd, lx.map ty.c⟩, ⟨none, 0, ei.size, true, ((l.drop off).take m).map ty.c⟩, ⟨ei.size, exd, lx.map ty.c ++ ((l.drop off).take m).map ty.c⟩) := by
        unfold appendW
        simp only [ht, ht2, hi2, hds, hss, List.length_map, hl2, h3, hby, hz, and_self, if_true]
      have := effO_appendW (P := P) (G := G) (o := x) (st := st) (x := ox) (y := oy) (t := t) (t2 := t2) (d := d) hop hdst hdn hu (hvs (ox, .ref bx 0 lx.length) (by simp)) (hvs (oy, .ref b off m) (by simp)) ha (fun _ _ h => by simp at h)
      simp only [List.length_map, ← List.map_append] at this
      rw [← List.length_append] at this
      exact this
end
end Go.EV
namespace Go.EV
open Go
def Rule.makeNums {P : Program} {G : Nat → Option (List V)} {ty : Ty Int} {t e : TypeId} {k : IntKind} (ol oc : Operand) (d n : Nat) (by_ : Nat) (ht : P.underlying t = some (.slice e))
    (hi : (P.info? e).map (fun i => (i.size, i.bytes)) = some (1, by_)) (hz : (P.info? e).bind TypeInfo.zero = some (.int k 0)) (hb : by_ * n ≤ 281474976710656 ∧ n ≤ 9223372036854775807) (hc : ∀ x, ty.c x = [.int k x]) : Rule P G Unit where
  op := .makeSlice t ol oc
  dst := some d
  vals := [(ol, .int .i64 (n : Int)), (oc, .int .i64 (n : Int))]
  blks := []
  o := some ()
  ws := fun _ => [.b d (some ⟨1, true, (List.replicate n (0 : Int)).map ty.c⟩), .t d (.ref d 0 n)]
  dt := [d]
  dat := fun _ i k h _ => by
    simp only [List.mem_cons, Wr.b.injEq, Option.some.injEq, reduceCtorEq, List.not_mem_nil, or_false] at h
    rw [h.2]; exact ty.data _
  ok := fun _ _ x st hop hdst hvs _ hd => effO_value fun γ a w hs => by
    obtain ⟨h1, h2⟩ := hd d rfl
    obtain ⟨i, hi1, hi2⟩ := Option.map_eq_some_iff.1 hi
    simp only [Prod.mk.injEq] at hi2
    obtain ⟨s1, s2⟩ := hi2
    have hz' : i.zero = some (.int k 0) := by rw [hi1] at hz; exact hz
    have e1 : a.eval ol = .int .i64 (n : Int) := (hvs (ol, .int .i64 (n : Int)) (by simp) γ a w hs).int_inv
    have e2 : a.eval oc = .int .i64 (n : Int) := (hvs (oc, .int .i64 (n : Int)) (by simp) γ a w hs).int_inv
    have hrun := run_make (P := P) w t e i (.int k 0) ht hi1 hz' .i64 .i64 (n : Int) (n : Int) (by omega) (by omega) (by rw [s2]; have := hb.1; omega) (by omega)
    have hrows : (List.replicate n (0 : Int)).map ty.c = List.replicate n [V.int k 0] := by rw [List.map_replicate, hc]
    have hcell : ∀ j (c : V), ((List.replicate n (0 : Int)).map ty.c).flatten[j]? = some c → j < n ∧ c = .int k 0 := fun j c hj => by
      rw [hrows] at hj
      have hl : (List.replicate n [V.int k 0]).flatten = List.replicate n (V.int k 0) := by
        induction n with
        | zero => rfl
        | succ m ih => simp [List.replicate_succ, List.flatten_cons]
      rw [hl] at hj
      obtain ⟨a1, a2⟩ := List.getElem?_eq_some_iff.1 hj
      simp only [List.length_replicate] at a1
      simp only [List.getElem_replicate] at a2
      exact ⟨a1, a2.symm⟩
    have sz : (madeCells (Value.int k 0).cells ((n : Int).toNat * i.size)).size = n := by rw [size_madeCells, s1]; simp
    have key := hs.newBlk (d := d) (size := 1) (rows := (List.replicate n (0 : Int)).map ty.c) (cs := madeCells (Value.int k 0).cells ((n : Int).toNat * i.size)) (e := e) (w1 := { w with heap := w.heap.push (.cells (madeCells (Value.int k 0).cells ((n : Int).toNat * i.size)) e) }) (by decide) h2 rfl ⟨rfl, rfl, rfl⟩
      (fun r hr => by rw [hrows] at hr; rw [(List.mem_replicate.1 hr).2]; rfl) (by rw [sz]; simp) (fun j c hj => by
        obtain ⟨j1, rfl⟩ := hcell j c hj
        refine ⟨.int k 0, ?_, .data (.int k 0), rfl, rfl⟩
        unfold madeCells
        rw [Array.getElem?_map]
        have hlt : j < (n : Int).toNat * i.size := by rw [s1]; simpa using j1
        have : (Array.range ((n : Int).toNat * i.size))[j]? = some j := by rw [Array.getElem?_range, if_pos hlt]
        rw [this]
        have hcs : (Value.int k 0).cells = #[.int k 0] := rfl
        simp only [Option.map_some, Option.some.injEq, hcs]
        have : j % (#[Value.int k 0] : Array Value).size = 0 := Nat.mod_one j
        rw [this]; rfl)
    refine ⟨.slice (some ⟨w.heap.size, 0, none⟩) n n, _, γ.add d w.heap.size, ?_, key.2.1, key.2.2.pin, ?_⟩
    · have e3 : (execOp a.eval x) = (do let v ← Instr.makeSlice t (a.eval ol) (a.eval oc); pure (.value v) : Sem Next) := by unfold execOp; rw [hop]
      rw [e3, Sem.run_bind, e1, e2, hrun]
      rfl
    · rw [hdst]
      have hb' := key.1.put (a := a) (dst := some d) (c := .ref d 0 n) (v := .slice (some ⟨w.heap.size, 0, none⟩) n n) (by simpa [dstOk, St.setB] using h1) (by
        have := Rep.ref (γ := γ.add d w.heap.size) (w := { w with heap := w.heap.push (.cells (madeCells (Value.int k 0).cells ((n : Int).toNat * i.size)) e) }) (bs := (st.setB d ⟨1, true, (List.replicate n (0 : Int)).map ty.c⟩).b) (u := (st.setB d ⟨1, true, (List.replicate n (0 : Int)).map ty.c⟩).u)
          d 0 n w.heap.size 0 n ⟨1, true, (List.replicate n (0 : Int)).map ty.c⟩ (by simp [St.setB]) (by simp [Gh.add]) (by simp) (Nat.le_refl _) ⟨madeCells (Value.int k 0).cells ((n : Int).toNat * i.size), e, (0, 0), Array.getElem?_push_size, by rw [sz]; simp⟩ (by show 1 < MAPS; decide) (by simp)
        simpa using this)
      exact hb'
def Rule.makeD {P : Program} {G : Nat → Option (List V)} {α : Type} {ty : Ty α} {t e : TypeId} {zv : Value} {zc : V} (a0 : α) (ol oc : Operand) (d : Nat) (n m : Int) (by_ : Nat) (ht : P.underlying t = some (.slice e))
    (hi : (P.info? e).map (fun i => (i.size, i.bytes)) = some (1, by_)) (hz : (P.info? e).bind TypeInfo.zero = some zv) (hc : ty.c a0 = [zc]) (hzc : zv.cells = #[zv] ∧ zv.oneCell' = true ∧ zc.isOwn = false) (hrep : ∀ lim w, RepD lim w zc zv) : Rule P G Unit where
  op := .makeSlice t ol oc
  dst := some d
  vals := [(ol, .int .i64 n), (oc, .int .i64 m)]
  blks := []
  o := bif decide (0 ≤ n) && decide (n ≤ m) && decide (by_ * m.toNat ≤ 281474976710656) && decide (m ≤ 9223372036854775807) then some () else none
  ws := fun _ => [.b d (some ⟨1, true, (List.replicate n.toNat a0).map ty.c⟩), .t d (.ref d 0 n.toNat)]
  dt := [d]
  dat := fun _ i k h _ => by
    simp only [List.mem_cons, Wr.b.injEq, Option.some.injEq, reduceCtorEq, List.not_mem_nil, or_false] at h
    rw [h.2]; exact ty.data _
  ok := fun r ho x st hop hdst hvs hbs hd => effO_value fun γ a w hs => by
    have hc3 : (decide (0 ≤ n) && decide (n ≤ m) && decide (by_ * m.toNat ≤ 281474976710656) && decide (m ≤ 9223372036854775807)) = true := by
      cases hh : (decide (0 ≤ n) && decide (n ≤ m) && decide (by_ * m.toNat ≤ 281474976710656) && decide (m ≤ 9223372036854775807)) with
      | true => rfl
      | false => rw [hh] at ho; simp at ho
    simp only [Bool.and_eq_true, decide_eq_true_eq] at hc3
    obtain ⟨⟨⟨c0, c1⟩, c2⟩, c3⟩ := hc3
    obtain ⟨N, rfl⟩ := Int.eq_ofNat_of_zero_le c0
    obtain ⟨M, rfl⟩ := Int.eq_ofNat_of_zero_le (Int.le_trans c0 c1)
    simp only [Int.toNat_natCast] at *
    have hNM : N ≤ M := by omega
    obtain ⟨h1, h2⟩ := hd d rfl
    obtain ⟨i, hi1, hi2⟩ := Option.map_eq_some_iff.1 hi
    simp only [Prod.mk.injEq] at hi2
    obtain ⟨s1, s2⟩ := hi2
    have hz' : i.zero = some zv := by rw [hi1] at hz; exact hz
    have e1 : a.eval ol = .int .i64 (N : Int) := (hvs (ol, .int .i64 (N : Int)) (by simp) γ a w hs).int_inv
    have e2 : a.eval oc = .int .i64 (M : Int) := (hvs (oc, .int .i64 (M : Int)) (by simp) γ a w hs).int_inv
    have hrun := run_make (P := P) w t e i zv ht hi1 hz' .i64 .i64 (N : Int) (M : Int) (by omega) (by omega) (by rw [s2]; omega) (by omega)
    simp only [Int.toNat_natCast] at hrun
    have hrows : (List.replicate N a0).map ty.c = List.replicate N [zc] := by rw [List.map_replicate, hc]
    have hcell : ∀ j (c : V), ((List.replicate N a0).map ty.c).flatten[j]? = some c → j < N ∧ c = zc := fun j c hj => by
      rw [hrows] at hj
      have hl : ∀ N : Nat, (List.replicate N [zc]).flatten = List.replicate N zc := fun N => by
        induction N with
        | zero => rfl
        | succ m ih => simp [List.replicate_succ, List.flatten_cons, ih]
      rw [hl] at hj
      obtain ⟨a1, a2⟩ := List.getElem?_eq_some_iff.1 hj
      simp only [List.length_replicate] at a1
      simp only [List.getElem_replicate] at a2
      exact ⟨a1, a2.symm⟩
    have sz : (madeCells zv.cells (M * i.size)).size = M := by rw [size_madeCells, s1]; simp
    have key := hs.newBlk (d := d) (size := 1) (rows := (List.replicate N a0).map ty.c) (cs := madeCells zv.cells (M * i.size)) (e := e) (w1 := { w with heap := w.heap.push (.cells (madeCells zv.cells (M * i.size)) e) }) (by decide) h2 rfl ⟨rfl, rfl, rfl⟩
      (fun r hr => by rw [hrows] at hr; rw [(List.mem_replicate.1 hr).2]; rfl) (by rw [sz]; simpa using hNM) (fun j c hj => by
        obtain ⟨j1, rfl⟩ := hcell j c hj
        refine ⟨zv, ?_, .data (hrep _ _), hzc.2.1, hzc.2.2⟩
        unfold madeCells
        rw [Array.getElem?_map]
        have hlt : j < M * i.size := by rw [s1]; omega
        have : (Array.range (M * i.size))[j]? = some j := by rw [Array.getElem?_range, if_pos hlt]
        rw [this]
        simp only [Option.map_some, Option.some.injEq, hzc.1]
        have : j % (#[zv] : Array Value).size = 0 := Nat.mod_one j
        rw [this]; rfl)
    refine ⟨.slice (some ⟨w.heap.size, 0, none⟩) N M, _, γ.add d w.heap.size, ?_, key.2.1, key.2.2.pin, ?_⟩
    · have e3 : (execOp a.eval x) = (do let v ← Instr.makeSlice t (a.eval ol) (a.eval oc); pure (.value v) : Sem Next) := by unfold execOp; rw [hop]
      rw [e3, Sem.run_bind, e1, e2, hrun]
      rfl
    · rw [hdst]
      have hb' := key.1.put (a := a) (dst := some d) (c := .ref d 0 N) (v := .slice (some ⟨w.heap.size, 0, none⟩) N M) (by simpa [dstOk, St.setB] using h1) (by
        have := Rep.ref (γ := γ.add d w.heap.size) (w := { w with heap := w.heap.push (.cells (madeCells zv.cells (M * i.size)) e) }) (bs := (st.setB d ⟨1, true, (List.replicate N a0).map ty.c⟩).b) (u := (st.setB d ⟨1, true, (List.replicate N a0).map ty.c⟩).u)
          d 0 N w.heap.size 0 M ⟨1, true, (List.replicate N a0).map ty.c⟩ (by simp [St.setB]) (by simp [Gh.add]) (by simp) hNM ⟨madeCells zv.cells (M * i.size), e, (0, 0), Array.getElem?_push_size, by rw [sz]; simp⟩ (by show 1 < MAPS; decide) (by simpa using hNM)
        simpa using this)
      exact hb'
def Rule.allocAny {P : Program} {G : Nat → Option (List V)} (e : TypeId) (d : Nat) (hi : ((P.info? e).bind TypeInfo.zero).any (fun z => z.oneCell' && z.cells.size == 1) = true) : Rule P G Unit where
  op := .alloc e
  dst := some d
  vals := []
  blks := []
  o := some ()
  ws := fun _ => [.b d (some ⟨1, true, [[.undef]]⟩), .t d (.ptr d 0 0)]
  dt := []
  dat := fun _ _ _ _ h => by simp at h
  ok := fun _ _ x st hop hdst _ _ hd => effO_value fun γ a w hs => by
    obtain ⟨h1, h2⟩ := hd d rfl
    obtain ⟨z, hz, hz2⟩ : ∃ z, (P.info? e).bind TypeInfo.zero = some z ∧ (z.oneCell' && z.cells.size == 1) = true := by
      cases hz : (P.info? e).bind TypeInfo.zero with
      | none => rw [hz] at hi; simp at hi
      | some z => rw [hz] at hi; exact ⟨z, rfl, by simpa using hi⟩
    obtain ⟨i, hi1, hi2⟩ := Option.bind_eq_some_iff.1 hz
    simp only [Bool.and_eq_true, beq_iff_eq] at hz2
    have hzr : (zeroValue e).run P w = .ok z w := by simp [zeroValue, typeInfo, hi1, hi2]
    have hc1 : z.cells = #[z] := by cases z <;> first | rfl | (simp [Value.oneCell'] at hz2)
    have key := hs.newBlk (d := d) (size := 1) (rows := [[.undef]]) (cs := z.cells) (e := e) (w1 := { w with heap := w.heap.push (.cells z.cells e) }) (by decide) h2 rfl ⟨rfl, rfl, rfl⟩ (by simp) (by simp [hz2.2]) (fun j c hj => by
      simp only [List.flatten_cons, List.flatten_nil, List.append_nil] at hj
      obtain ⟨hj1, hj2⟩ := List.getElem?_eq_some_iff.1 hj
      have : j = 0 := by simpa using hj1
      subst this
      simp only [List.getElem_cons_zero] at hj2
      subst hj2
      exact ⟨z, by rw [hc1]; rfl, .undef z, hz2.1, rfl⟩)
    refine ⟨.pointer (some ⟨w.heap.size, 0, none⟩), { w with heap := w.heap.push (.cells z.cells e) }, γ.add d w.heap.size, ?_, key.2.1, key.2.2.pin, ?_⟩
    · simp [execOp, hop, Instr.alloc, hzr, newVar, newRow]
    · rw [hdst]
      have := key.1.put (a := a) (dst := some d) (c := .ptr d 0 0) (v := .pointer (some ⟨w.heap.size, 0, none⟩)) (by simpa [dstOk, St.setB] using h1) (by
        have := Rep.ptr (γ := γ.add d w.heap.size) (w := { w with heap := w.heap.push (.cells z.cells e) }) (u := (st.setB d ⟨1, true, [[.undef]]⟩).u) (bs := (st.setB d ⟨1, true, [[.undef]]⟩).b) d 0 0 w.heap.size 0 ⟨1, true, [[.undef]]⟩ (by simp [St.setB]) (by simp [Gh.add]) (by show 1 < MAPS; decide)
        simpa using this)
      exact this
theorem rowsN_map {ty : Ty Int} (hc : ∀ x, ty.c x = [.int .u8 x]) : ∀ l : List Int, rowsN (l.map ty.c) = some l
 | [] => rfl
 | x :: l => by
  simp only [List.map_cons, rowsN, hc, rowN, rowsN_map hc l]
def Rule.textOf {P : Program} {G : Nat → Option (List V)} {ty : Ty Int} {s t e : TypeId} (ox : Operand) (d b : Nat) (l : List Int) (n : Nat) (hs : P.underlying s = some (.slice e)) (ht : P.underlying t = some .string) (he : P.underlying e = some (.int .u8)) (hn : l.length = n) (hc : ∀ x, ty.c x = [.int .u8 x]) : Rule P G Unit where
 op := .convert s t ox
 dst := some d
 vals := [(ox, .ref b 0 n)]
 blks := [(b, ⟨1, true, l.map ty.c⟩)]
 o := some ()
 ws := fun _ => [.t d (.str (strOfNums l))]
 dt := []
 dat := fun _ _ _ _ h => by simp at h
 ok := fun _ _ x st hop hdst hvs hb hd => effO_value fun γ a w hs' => by
  have hx := hvs (ox, .ref b 0 n) (by simp) γ a w hs'
  have hk := hb (b, ⟨1, true, l.map ty.c⟩) (by simp)
  have hcv : convL P st.b s t (.ref b 0 n) = some (.str (strOfNums l)) := by
   simp only [convL, hs, ht, he, hk]
   rw [if_pos ⟨trivial, by simp [hn]⟩, List.drop_zero, ← hn, ← List.length_map (f := ty.c), List.take_length, rowsN_map hc]
   rfl
  obtain ⟨v, h1, h2⟩ := run_convL hs' hcv hx
  refine ⟨v, w, γ, ?_, .refl γ w, .refl hs'.u, ?_⟩
  ·have e3 : (execOp a.eval x) = (do let v ← convert s t (a.eval ox); pure (.value v) : Sem Next) := by unfold execOp; rw [hop]
   rw [e3, Sem.run_bind, h1]
   rfl
  ·rw [hdst]
   exact hs'.put (a := a) (dst := some d) (by simpa [dstOk] using (hd d rfl).1) h2
end Go.EV
