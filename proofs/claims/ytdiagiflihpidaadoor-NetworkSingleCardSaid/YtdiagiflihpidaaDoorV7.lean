/- The value-level logic: rows of a local block written over in place: a part of a slice appended to its beginning, a part cleared; slices up to their capacity. No conditions.
   What a guide is worth, by rules: 'Ok g Q' says that the guide comes to a result of which Q holds. No conditions.
   The value-level logic: slices made with their length; octets of a typed block as a text; no conditions but those that the rules name. -/
import Derived.Test.YtdiagiflihpidaaDoorV6
import Derived.Test.YtdiagiflihpidaaDoorV5
import Derived.Laws.MakeOwn
import Derived.KernelRfl
namespace Go.EV
open Go
theorem Ty.notOwn {α : Type} {ty : Ty α} (hs : ∀ y, ty.c y = ty.d y) (y : α) {c : V} (hc : c ∈ ty.c y) : c.isOwn = false := by
 rw [hs y, ← ty.st y] at hc
 obtain ⟨c0, _, rfl⟩ := List.mem_map.1 hc
 exact strip_own c0
def over {α : Type} (l : List α) (p : Nat) (r : List α) : List α := l.take p ++ r ++ l.drop (p + r.length)
theorem over_length {α : Type} (l : List α) (p : Nat) (r : List α) (h : p + r.length ≤ l.length) : (over l p r).length = l.length := by
 simp [over]; omega
theorem over_get {α : Type} (l : List α) (p : Nat) (r : List α) (h : p + r.length ≤ l.length) (q : Nat) : (over l p r)[q]? = if p ≤ q ∧ q < p + r.length then r[q - p]? else l[q]? := by
 unfold over
 have e1 : (l.take p).length = p := by simp; omega
 by_cases h1 : q < p
 ·rw [if_neg (by omega), List.append_assoc, List.getElem?_append_left (by omega), List.getElem?_take, if_pos h1]
 ·rw [List.append_assoc, List.getElem?_append_right (by omega), e1]
  by_cases h2 : q < p + r.length
  ·rw [if_pos (by omega), List.getElem?_append_left (by omega)]
  ·rw [if_neg (by omega), List.getElem?_append_right (by omega), List.getElem?_drop]
   congr 1; omega
theorem Sim.putRows {G : Nat → Option (List V)} {γ : Gh} {st : St} {tmps : Array Value} {w : World} (h : Sim G γ st tmps w) {α : Type} {ty : Ty α} {l r : List α} {b z p B o : Nat} {cs : Array Value} {e : TypeId} {news : List Value}
  (hk : st.b b = some ⟨z, true, l.map ty.c⟩) (hM : z < MAPS) (hs : ∀ y, ty.c y = ty.d y) (hloc : γ.loc b = some (B, o)) (hown : γ.own B = some (.blk b)) (hheap : w.heap[B]? = some (.cells cs e (0, 0)))
  (h4 : ∀ r, r ∈ l.map ty.c → r.length = z) (h5 : o + (l.map ty.c).length * z ≤ cs.size)
  (h6 : ∀ (i : Nat) (c : V), (l.map ty.c).flatten[i]? = some c → ∃ v, cs[o + i]? = some v ∧ Rep γ w st.b st.u c v ∧ v.oneCell' = true ∧ Right γ w (.nest b (i / z) (i % z)) c v) (hlim : γ.lim B = 0)
  (hp : p + r.length ≤ l.length) (hn : news.length = r.length * z) (hrz : ∀ q, q ∈ r.map ty.c → q.length = z)
  (hnew : ∀ (i : Nat) (c : V), (r.map ty.c).flatten[i]? = some c → ∃ v, news[i]? = some v ∧ Rep γ w st.b st.u c v ∧ v.oneCell' = true) :
  Sim G γ (st.setB b ⟨z, true, (over l p r).map ty.c⟩) tmps (World.setBlk w B (setRange cs (o + p * z) news) e) ∧ Grow γ w γ (World.setBlk w B (setRange cs (o + p * z) news) e) ∧
   BsLe γ st.b st.u γ (st.setB b ⟨z, true, (over l p r).map ty.c⟩).b (st.setB b ⟨z, true, (over l p r).map ty.c⟩).u := by
 have hl : (l.map ty.c).length = l.length := by simp
 rw [hl] at h5
 have hle : (p + r.length) * z ≤ l.length * z := Nat.mul_le_mul_right _ hp
 rw [Nat.add_mul] at hle
 obtain ⟨r1, r2⟩ := setRange_spec news (o + p * z) cs (by rw [hn]; omega)
 have hz' : ∀ q, q ∈ (over l p r).map ty.c → q.length = z := fun q hq => by
  obtain ⟨y, hy, rfl⟩ := List.mem_map.1 hq
  unfold over at hy
  rcases List.mem_append.1 hy with hy | hy
  ·rcases List.mem_append.1 hy with hy | hy
   ·exact h4 _ (List.mem_map.2 ⟨y, List.mem_of_mem_take hy, rfl⟩)
   ·exact hrz _ (List.mem_map.2 ⟨y, hy, rfl⟩)
  ·exact h4 _ (List.mem_map.2 ⟨y, List.mem_of_mem_drop hy, rfl⟩)
 refine h.storeBlk (k := ⟨z, true, l.map ty.c⟩) hk hM hloc hown hheap r1 hlim hz' (by simp [over_length l p r hp]) (by rw [hl]; exact h5) fun i c hc => ?_
 have hpos : 0 < z := by
  rcases Nat.eq_zero_or_pos z with h0 | h0
  ·have : ((over l p r).map ty.c).flatten = [] := by
    rw [List.flatten_eq_nil_iff]
    intro q hq
    exact List.length_eq_zero_iff.1 ((hz' q hq).trans h0)
   rw [this] at hc; simp at hc
  ·exact h0
 have ei : i = (i / z) * z + i % z := by rw [Nat.mul_comm]; exact (Nat.div_add_mod i z).symm
 have hm := Nat.mod_lt i hpos
 have hc' := hc
 rw [ei, flatten_get _ hz' _ _ hm, List.getElem?_map, over_get l p r hp] at hc'
 rw [r2, hn]
 by_cases hq : p ≤ i / z ∧ i / z < p + r.length
 ·rw [if_pos hq] at hc'
  have a1 : p * z ≤ i / z * z := Nat.mul_le_mul_right _ hq.1
  have a2 : (i / z + 1) * z ≤ (p + r.length) * z := Nat.mul_le_mul_right _ hq.2
  rw [Nat.add_mul, Nat.add_mul] at a2
  rw [if_pos (by omega)]
  have e2 : o + i - (o + p * z) = (i / z - p) * z + i % z := by
   rw [Nat.sub_mul]; omega
  have hcr : (r.map ty.c).flatten[(i / z - p) * z + i % z]? = some c := by rw [flatten_get _ hrz _ _ hm, List.getElem?_map]; exact hc'
  obtain ⟨v, v1, v2, v3⟩ := hnew _ c hcr
  obtain ⟨q, hq1, hq2⟩ := List.mem_flatten.1 (List.mem_of_getElem? hcr)
  obtain ⟨y, _, rfl⟩ := List.mem_map.1 hq1
  exact ⟨v, by rw [e2]; exact v1, v2, v3, .of_not_own (Ty.notOwn hs y hq2)⟩
 ·rw [if_neg hq] at hc'
  have hno : ¬ (o + p * z ≤ o + i ∧ o + i < o + p * z + r.length * z) := fun hx => hq (by
   constructor
   ·exact (Nat.le_div_iff_mul_le hpos).2 (by omega)
   ·exact (Nat.div_lt_iff_lt_mul hpos).2 (by rw [Nat.add_mul]; omega))
  rw [if_neg hno]
  have hcl : (l.map ty.c).flatten[i]? = some c := by rw [ei, flatten_get _ h4 _ _ hm, List.getElem?_map]; exact hc'
  exact h6 i c hcl
section
variable {P : Program} {G : Nat → Option (List V)}
def Rule.appSame {α : Type} {ty : Ty α} {t t2 e e2 : TypeId} {z : Nat} (ox oy : Operand) (d b i j m : Nat) (l : List α) (ht : P.underlying t = some (.slice e)) (ht2 : P.underlying t2 = some (.slice e2)) (hi : (P.info? e).map TypeInfo.size = some z)
    (hs : ∀ y, ty.c y = ty.d y) : Rule P G Unit where
  op := .call { callee := .builtin .append, args := #[ox, oy], argTypes := #[t, t2] }
  dst := some d
  vals := [(ox, .ref b 0 i), (oy, .ref b j m)]
  blks := [(b, ⟨z, true, l.map ty.c⟩)]
  o := bif decide (i ≤ j ∧ j + m ≤ l.length ∧ 0 < l.length) then some () else none
  ws := fun _ => [.b b (some ⟨z, true, (over l i ((l.drop j).take m)).map ty.c⟩), .t d (.ref b 0 (i + m))]
  dt := [b]
  dat := fun _ q k hm _ => by
    simp only [List.mem_cons, List.not_mem_nil, or_false, Wr.b.injEq, Option.some.injEq, reduceCtorEq] at hm
    obtain ⟨_, rfl⟩ := hm
    exact ty.data _
  ok := fun _ ho x st hop hdst hvs hb hd => effO_value fun γ a w hsim => by
    have hc : i ≤ j ∧ j + m ≤ l.length ∧ 0 < l.length := by
      cases hcc : decide (i ≤ j ∧ j + m ≤ l.length ∧ 0 < l.length) with
      | false => rw [hcc] at ho; simp at ho
      | true => simpa using hcc
    obtain ⟨hij, hjm, hpos⟩ := hc
    have hbb : st.b b = some ⟨z, true, l.map ty.c⟩ := hb (b, ⟨z, true, l.map ty.c⟩) (by simp)
    have rx : Rep γ w st.b st.u (.ref b 0 i) (a.eval ox) := hvs (ox, .ref b 0 i) (by simp) γ a w hsim
    have ry : Rep γ w st.b st.u (.ref b j m) (a.eval oy) := hvs (oy, .ref b j m) (by simp) γ a w hsim
    obtain ⟨hdn, _⟩ := hd d rfl
    obtain ⟨ei, hi2, hz⟩ := Option.map_eq_some_iff.1 hi
    subst hz
    have hll : (l.map ty.c).length = l.length := by simp
    rcases rx.ref_inv hbb with ⟨B, o, cap, hv, hl, hil, hcap, hroom, hM, hcp⟩ | ⟨B, _, _, h0, _⟩ | ⟨_, _, h0, _⟩
    · rcases hsim.b b _ hbb with ⟨v1, _⟩ | hm | ⟨_, B', o', cs, e', h1, h2, h3, h4, h5, h6, h7, h8⟩
      · rw [hl] at v1; simp at v1
      · exact (hm.small hM).elim
      rw [hl] at h1; simp only [Option.some.injEq, Prod.mk.injEq] at h1
      obtain ⟨rfl, rfl⟩ := h1
      simp only at hM hcp h4 h5 h6 h7 hv hroom
      rw [hll] at hcp
      obtain ⟨vs, so, _⟩ := ref_shape (P := P) hsim hbb (by rw [hll]; exact hjm) ry true
      have hrl : (((l.map ty.c).drop j).take m).length = m := by simp; omega
      have hlen := so.len
      have hfirst := so.first
      simp only [hrl] at hlen hfirst
      have hvl : vs.length = m * ei.size := by have := so.rd.2.1; simpa only [hrl] using this
      have hone : ∀ v, v ∈ vs → v.oneCell' = true := fun v hv => by
        obtain ⟨q, hq, rfl⟩ := List.getElem_of_mem hv
        have fl : (((l.map ty.c).drop j).take m).flatten.length = m * ei.size := by
          rw [List.length_flatten]
          have : (((l.map ty.c).drop j).take m).map List.length = List.replicate (((l.map ty.c).drop j).take m).length ei.size := List.eq_replicate_iff.2 ⟨by simp, fun x hx => by obtain ⟨r, hr, rfl⟩ := List.mem_map.1 hx; exact so.rd.1 r hr⟩
          rw [this, hrl]; simp
        obtain ⟨v, a1, _, a3, _⟩ := so.rd.2.2 q _ (List.getElem?_eq_getElem (show q < (((l.map ty.c).drop j).take m).flatten.length by rw [fl]; omega))
        rw [List.getElem?_eq_getElem hq] at a1
        simp only [Option.some.injEq] at a1
        rw [a1]; exact a3
      rw [hll] at h5
      have hle : (i + m) * ei.size ≤ l.length * ei.size := Nat.mul_le_mul_right _ (by omega)
      rw [Nat.add_mul] at hle
      have hrun := run_append_in_any (P := P) (w := w) t t2 x.type e e2 ei ht ht2 hi2 B o i cap m (a.eval oy) vs cs e' hlen hfirst (by omega) h3 hone (by rw [hvl]; omega)
      have er : ((l.drop j).take m).map ty.c = ((l.map ty.c).drop j).take m := by rw [List.map_take, List.map_drop]
      have el : ((l.drop j).take m).length = m := by simp; omega
      have hov := over_length l i ((l.drop j).take m) (by rw [el]; omega)
      have key := hsim.putRows (r := (l.drop j).take m) (p := i) (news := vs) hbb hM hs hl h2 h3 h4 (by rw [hll]; exact h5) h6 (h7 trivial) (by rw [el]; omega) (by rw [el]; exact hvl) (by rw [er]; exact so.rd.1) (by
        rw [er]; exact fun q c hc => by obtain ⟨v, v1, v2, v3, _⟩ := so.rd.2.2 q c hc; exact ⟨v, v1, v2, v3⟩)
      have pre : execOp a.eval x = (do let v ← Builtin.append_ #[t, t2] x.type #[a.eval ox, a.eval oy]; pure (.value v)) := by
        have h1 : execOp a.eval x = builtin .append #[t, t2] x.type (#[ox, oy].map fun | .const _ => true | _ => false) (#[ox, oy].map a.eval) := by
          show (execOp a.eval x) = _; unfold execOp; rw [hop]; rfl
        rw [h1]; simp [builtin]
      have ev : a.eval ox = .slice (some ⟨B, o, none⟩) i cap := by simpa using hv
      refine ⟨.slice (some ⟨B, o, none⟩) (i + m) cap, _, γ, by rw [pre, Sem.run_bind, ev, hrun, Result.andThen_ok]; rfl, key.2.1, key.2.2.pin, ?_⟩
      have hp := key.1.put (a := a) (dst := some d) (c := .ref b 0 (i + m)) (v := .slice (some ⟨B, o, none⟩) (i + m) cap) (by simpa [dstOk, St.setB] using hdn) (by
        have hr2 := key.2.1.roomAt hroom
        have := Rep.ref (γ := γ) (w := World.setBlk w B (setRange cs (o + i * ei.size) vs) e') (bs := (st.setB b ⟨ei.size, true, (over l i ((l.drop j).take m)).map ty.c⟩).b) (u := (st.setB b ⟨ei.size, true, (over l i ((l.drop j).take m)).map ty.c⟩).u) b 0 (i + m) B o cap ⟨ei.size, true, (over l i ((l.drop j).take m)).map ty.c⟩ (by simp [St.setB]) hl (by show 0 + (i + m) ≤ ((over l i ((l.drop j).take m)).map ty.c).length; rw [List.length_map, hov]; omega) (by omega) hr2 hM (by show ((over l i ((l.drop j).take m)).map ty.c).length ≤ 0 + cap; rw [List.length_map, hov]; omega)
        simpa using this)
      rw [hdst]
      exact hp
    · have h0 : (l.map ty.c).length = 0 := h0
      rw [hll] at h0; omega
    · have h0 : (l.map ty.c).length = 0 := h0
      rw [hll] at h0; omega
def Rule.appCut {α : Type} {ty : Ty α} {t t2 e e2 : TypeId} {z bytes : Nat} (ox oy : Operand) (d b i j m : Nat) (l : List α) (ht : P.underlying t = some (.slice e)) (ht2 : P.underlying t2 = some (.slice e2)) (hi : (P.info? e).map (fun i => (i.size, i.bytes)) = some (z, bytes)) (hby : 0 < bytes)
    (hz : (zeroV P e).map List.length = some z) (hs : ∀ y, ty.c y = ty.d y) : Rule P G Unit where
  op := .call { callee := .builtin .append, args := #[ox, oy], argTypes := #[t, t2] }
  dst := some d
  vals := [(ox, .ref b 0 i), (oy, .ref b j m)]
  blks := [(b, ⟨z, true, l.map ty.c⟩)]
  o := bif decide (i ≤ l.length ∧ j + m ≤ l.length ∧ (i + m) * bytes ≤ 140737488355328) then some () else none
  ws := fun _ => [.b b none, .b d (some ⟨z, true, (l.take i ++ (l.drop j).take m).map ty.c⟩), .t d (.ref d 0 (l.take i ++ (l.drop j).take m).length)]
  dt := [d]
  dat := fun _ q k hm _ => by
    simp only [List.mem_cons, List.not_mem_nil, or_false, Wr.b.injEq, Option.some.injEq, reduceCtorEq, and_false, false_or] at hm
    obtain ⟨_, rfl⟩ := hm
    exact ty.data _
  ok := fun _ ho x st hop hdst hvs hb hd => by
    have hc : i ≤ l.length ∧ j + m ≤ l.length ∧ (i + m) * bytes ≤ 140737488355328 := by
      cases hcc : decide (i ≤ l.length ∧ j + m ≤ l.length ∧ (i + m) * bytes ≤ 140737488355328) with
      | false => rw [hcc] at ho; simp at ho
      | true => simpa using hcc
    obtain ⟨h1, h2, h3⟩ := hc
    have hbb : st.b b = some ⟨z, true, l.map ty.c⟩ := hb (b, ⟨z, true, l.map ty.c⟩) (by simp)
    obtain ⟨hdn, hu⟩ := hd d rfl
    obtain ⟨ei, hi2, hz2⟩ := Option.map_eq_some_iff.1 hi
    simp only [Prod.mk.injEq] at hz2
    obtain ⟨rfl, rfl⟩ := hz2
    have el : (((l.drop j).take m).map ty.c).map (·.map V.strip) = ((l.drop j).take m).map ty.c := by
      rw [List.map_map]
      exact List.map_congr_left fun y _ => by
        show (ty.c y).map V.strip = ty.c y
        rw [hs y]; exact ty.st y
    have e1 : ((l.map ty.c).drop 0).take i = (l.take i).map ty.c := by rw [List.drop_zero, List.map_take]
    have e2 : ((l.map ty.c).drop j).take m = ((l.drop j).take m).map ty.c := by rw [List.map_take, List.map_drop]
    have hl1 : (l.take i).length = i := by simp; omega
    have hl2 : ((l.drop j).take m).length = m := by simp; omega
    have hds : dstV st.b ei.size (.ref b 0 i) = some ⟨some b, 0, ei.size, true, (l.take i).map ty.c⟩ := by
      unfold dstV
      simp only [hbb, List.length_map, Nat.zero_add, true_or, and_true, h1, if_true, e1]
    have hss : srcV st.b ei.size (some b) (.ref b j m) = some ⟨none, 0, ei.size, true, ((l.drop j).take m).map ty.c⟩ := by
      unfold srcV
      simp only [hbb, List.length_map, true_and, h2, if_true, e2, el]
    have ha : appendV P st.b t t2 (.ref b 0 i) (.ref b j m) = some (⟨some b, 0, ei.size, true, (l.take i).map ty.c⟩, ⟨none, 0, ei.size, true, ((l.drop j).take m).map ty.c⟩, ⟨ei.size, true, (l.take i).map ty.c ++ ((l.drop j).take m).map ty.c⟩) := by
      unfold appendV
      simp only [ht, ht2, hi2, hds, hss, List.length_map, hl1, hl2, h3, hby, hz, and_self, if_true]
    have := effO_append' (P := P) (G := G) (o := x) (st := st) (x := ox) (y := oy) (t := t) (t2 := t2) (d := d) hop hdst hdn hu (hvs (ox, .ref b 0 i) (by simp)) (hvs (oy, .ref b j m) (by simp)) ha
    simp only [List.length_map, ← List.map_append] at this
    rw [← List.length_append] at this
    exact this
def Rule.clear {α : Type} {ty : Ty α} {t e : TypeId} {z : Nat} (ox : Operand) (b off len : Nat) (l : List α) (y0 : α) (ht : P.underlying t = some (.slice e)) (hi : (P.info? e).map TypeInfo.size = some z) (hzero : zeroV P e = some (ty.c y0))
    (hy : (ty.c y0).length = z) (hs : ∀ y, ty.c y = ty.d y) : Rule P G Unit where
  op := .call { callee := .builtin .clear, args := #[ox], argTypes := #[t] }
  dst := none
  vals := [(ox, .ref b off len)]
  blks := [(b, ⟨z, true, l.map ty.c⟩)]
  o := some ()
  ws := fun _ => [.b b (some ⟨z, true, (over l off (List.replicate len y0)).map ty.c⟩)]
  dt := [b]
  dat := fun _ q k hm _ => by
    simp only [List.mem_singleton, Wr.b.injEq, Option.some.injEq] at hm
    obtain ⟨_, rfl⟩ := hm
    exact ty.data _
  ok := fun _ _ x st hop hdst hvs hb _ => effO_value fun γ a w hsim => by
    have hbb : st.b b = some ⟨z, true, l.map ty.c⟩ := hb (b, ⟨z, true, l.map ty.c⟩) (by simp)
    have rx : Rep γ w st.b st.u (.ref b off len) (a.eval ox) := hvs (ox, .ref b off len) (by simp) γ a w hsim
    obtain ⟨ei, hi2, hz⟩ := Option.map_eq_some_iff.1 hi
    subst hz
    have hll : (l.map ty.c).length = l.length := by simp
    have pre : execOp a.eval x = (do let v ← Builtin.clear_ #[t] x.type #[a.eval ox]; pure (.value v)) := by
      have h1 : execOp a.eval x = builtin .clear #[t] x.type (#[ox].map fun | .const _ => true | _ => false) (#[ox].map a.eval) := by
        show (execOp a.eval x) = _; unfold execOp; rw [hop]; rfl
      rw [h1]; simp [builtin]
    have same : len = 0 → (Builtin.clear_ #[t] x.type #[a.eval ox]).run P w = .ok (.tuple #[]) w → ∃ v w' γ', (execOp a.eval x).run P w = .ok (.value v) w' ∧ Grow γ w γ' w' ∧ Pin γ st.b st.u γ' (st.app [.b b (some ⟨ei.size, true, (over l off (List.replicate len y0)).map ty.c⟩)]).b (st.app [.b b (some ⟨ei.size, true, (over l off (List.replicate len y0)).map ty.c⟩)]).u ∧
        Sim G γ' (st.app [.b b (some ⟨ei.size, true, (over l off (List.replicate len y0)).map ty.c⟩)]) (a.put x.dst v).tmps w' := fun h0 hr => by
      subst h0
      have eo : over l off (List.replicate 0 y0) = l := by simp [over]
      rw [eo]
      have es : st.app [.b b (some ⟨ei.size, true, l.map ty.c⟩)] = st := by
        show st.setB b _ = st
        unfold St.setB
        cases st with
        | mk n t bb u =>
          simp only [St.mk.injEq, true_and]
          refine ⟨funext fun q => ?_, funext fun q => ?_⟩
          · split
            · rename_i e; subst e; exact hbb.symm
            · rfl
          · split
            · rename_i e; subst e; exact (hsim.u q _ hbb).symm
            · rfl
      rw [es]
      exact ⟨_, w, γ, by rw [pre, Sem.run_bind, hr, Result.andThen_ok]; rfl, .refl γ w, .refl hsim.u, by rw [hdst]; exact hsim⟩
    rcases rx.ref_inv hbb with ⟨B, o, cap, hv, hl, hil, hcap, hroom, hM, hcp⟩ | ⟨B, hv, h0, _, _⟩ | ⟨hv, h0, _, _⟩
    · rcases Nat.eq_zero_or_pos len with h0 | hpos
      · refine same h0 ?_
        rw [hv, h0]
        simp [Builtin.clear_, run_underlying ht]
      rcases hsim.b b _ hbb with ⟨v1, _⟩ | hm | ⟨_, B', o', cs, e', h1, h2, h3, h4, h5, h6, h7, h8⟩
      · rw [hl] at v1; simp at v1
      · exact (hm.small hM).elim
      rw [hl] at h1; simp only [Option.some.injEq, Prod.mk.injEq] at h1
      obtain ⟨rfl, rfl⟩ := h1
      simp only at hM hcp hil h4 h5 h6 h7 hv hroom
      rw [hll] at hil h5
      obtain ⟨zv, hz1, hz2⟩ := run_zeroV (P := P) (γ := γ) (w := w) (bs := st.b) (u := st.u) hzero
      have hzs : zv.cells.size = ei.size := hz2.1.trans hy
      have hnl : (Builtin.zeroCells zv.cells len).toList.length = len * ei.size := by simp [Builtin.zeroCells, hzs]
      have hg : ∀ q, q < len * ei.size → (Builtin.zeroCells zv.cells len).toList[q]? = zv.cells[q % ei.size]? := fun q hq => by
        have hzp : 0 < ei.size := by
          rcases Nat.eq_zero_or_pos ei.size with h | h
          · rw [h] at hq; omega
          · exact h
        have hm := Nat.mod_lt q hzp
        simp only [Builtin.zeroCells, Array.toList_map, Array.toList_range, List.getElem?_map, hzs]
        rw [List.getElem?_range hq]
        simp [hzs, hm]
      have hcellz : ∀ (q : Nat) (c : V), (ty.c y0)[q]? = some c → ∃ v, zv.cells[q]? = some v ∧ Rep γ w st.b st.u c v ∧ v.oneCell' = true := fun q c hc => by
        have hq : q < zv.cells.size := by rw [hz2.1]; exact (List.getElem?_eq_some_iff.1 hc).1
        have hx : zv.cells[q]? = some zv.cells[q] := Array.getElem?_eq_getElem hq
        exact ⟨_, hx, hz2.2 q c _ hc hx, (hz2.2 q c _ hc hx).isCell_one (dcell_isCell (List.all_eq_true.1 (ty.cd y0) c (List.mem_of_getElem? hc)))⟩
      have hone : ∀ v, v ∈ (Builtin.zeroCells zv.cells len).toList → v.oneCell' = true := fun v hv => by
        obtain ⟨q, hq, rfl⟩ := List.getElem_of_mem hv
        have hq' : q < len * ei.size := by rw [← hnl]; exact hq
        have hzp : 0 < ei.size := by
          rcases Nat.eq_zero_or_pos ei.size with h | h
          · rw [h] at hq'; omega
          · exact h
        have hm := Nat.mod_lt q hzp
        obtain ⟨v, v1, _, v3⟩ := hcellz (q % ei.size) _ (List.getElem?_eq_getElem (by rw [hy]; exact hm))
        have := hg q hq'
        rw [List.getElem?_eq_getElem hq, v1] at this
        simp only [Option.some.injEq] at this
        rw [this]; exact v3
      have hle : (off + len) * ei.size ≤ l.length * ei.size := Nat.mul_le_mul_right _ hil
      rw [Nat.add_mul] at hle
      have hst := run_storeCells (P := P) (B := B) (o := o + off * ei.size) (e := e') (Builtin.zeroCells zv.cells len).toList 0 w cs h3 hone (by rw [hnl]; omega)
      have key := hsim.putRows (r := List.replicate len y0) (p := off) (news := (Builtin.zeroCells zv.cells len).toList) hbb hM hs hl h2 h3 h4 (by rw [hll]; exact h5) h6 (h7 trivial) (by simpa using hil) (by rw [hnl]; simp) (fun q hq => by
          obtain ⟨y, hy', rfl⟩ := List.mem_map.1 hq
          rw [List.eq_of_mem_replicate hy']; exact hy) (fun q c hc => by
          have hzp : 0 < ei.size := by
            rcases Nat.eq_zero_or_pos ei.size with h | h
            · have : ((List.replicate len y0).map ty.c).flatten = [] := by
                rw [List.flatten_eq_nil_iff]
                intro r hr
                obtain ⟨y, hy', rfl⟩ := List.mem_map.1 hr
                rw [List.eq_of_mem_replicate hy']
                exact List.length_eq_zero_iff.1 (hy.trans h)
              rw [this] at hc; simp at hc
            · exact h
          have hrs : ∀ r, r ∈ (List.replicate len y0).map ty.c → r.length = ei.size := fun r hr => by
            obtain ⟨y, hy', rfl⟩ := List.mem_map.1 hr
            rw [List.eq_of_mem_replicate hy']; exact hy
          have eq : q = (q / ei.size) * ei.size + q % ei.size := by rw [Nat.mul_comm]; exact (Nat.div_add_mod q ei.size).symm
          have hm := Nat.mod_lt q hzp
          rw [eq, flatten_get _ hrs _ _ hm] at hc
          obtain ⟨r, hr, hc2⟩ := Option.bind_eq_some_iff.1 hc
          rw [List.getElem?_map, Option.map_eq_some_iff] at hr
          obtain ⟨y, hy', rfl⟩ := hr
          have hql : q / ei.size < len := by have := (List.getElem?_eq_some_iff.1 hy').1; simpa using this
          have hyy : y = y0 := List.eq_of_mem_replicate (List.mem_of_getElem? hy')
          subst hyy
          obtain ⟨v, v1, v2, v3⟩ := hcellz _ c hc2
          have hqs : q < len * ei.size := by
            have : (q / ei.size + 1) * ei.size ≤ len * ei.size := Nat.mul_le_mul_right _ hql
            rw [Nat.add_mul] at this; omega
          exact ⟨v, by rw [hg q hqs]; exact v1, v2, v3⟩)
      refine ⟨.tuple #[], _, γ, ?_, key.2.1, key.2.2.pin, by rw [hdst]; exact key.1⟩
      rw [pre, Sem.run_bind]
      have hne : len ≠ 0 := by omega
      have : (Builtin.clear_ #[t] x.type #[a.eval ox]).run P w = .ok (.tuple #[]) (World.setBlk w B (setRange cs (o + off * ei.size + 0) (Builtin.zeroCells zv.cells len).toList) e') := by
        rw [hv]
        obtain ⟨len', rfl⟩ : ∃ len', len = len' + 1 := ⟨len - 1, by omega⟩
        simp [Builtin.clear_, run_underlying ht, hz1, hst]
      rw [this, Result.andThen_ok]
      rfl
    · refine same h0 ?_
      rw [hv]
      simp [Builtin.clear_, run_underlying ht]
    · refine same h0 ?_
      rw [hv]
      simp [Builtin.clear_, run_underlying ht]
theorem effO_cut {x : Oper} {st : St} {t e : TypeId} {ei : TypeInfo} {ox ol oh : Operand} {om : Option Operand} {d b len lo hi : Nat} {k : Blk} {kl kh : IntKind} {vl vh : Int} {mx : Option V} (hop : x.op = .slice t ox (some ol) (some oh) om) (hdst : x.dst = some d) (hd : d < st.n)
  (ht : P.underlying t = some (.slice e)) (hi' : P.info? e = some ei) (hz : k.size = ei.size) (hk : st.b b = some k) (hx : Evs G st ox (.ref b 0 len)) (hl : Evs G st ol (.int kl vl)) (hh : Evs G st oh (.int kh vh))
  (hm : match om, mx with | none, none => True | some o, some c => Evs G st o c | _, _ => False) (h1 : hiR len k.rows.length (some (.int kh vh)) mx = some hi) (h2 : loV (some (.int kl vl)) hi = some lo) :
  EffO P G x st (st.setT d (.ref b lo (hi - lo))) := by
 have := effO_pure (P := P) (G := G) (o := x) (st := st) (c := .ref b lo (hi - lo)) (by rw [hdst]; simpa [dstOk] using hd) fun γ a w hs => by
  have hsl : sliceV P st.b t (.ref b 0 len) (some (.int kl vl)) (some (.int kh vh)) mx = some (.ref b lo (hi - lo)) := by
   unfold sliceV
   simp only [ht, hi', hk, hz, if_true, Nat.sub_zero, h1, Option.bind_some, h2, Option.map_some, Nat.zero_add]
  have rm : RepO γ w st.b st.u mx (om.map a.eval) := by
   cases om with
   | none => cases mx with
    | none => trivial
    | some c => exact hm.elim
   | some o => cases mx with
    | none => exact hm.elim
    | some c => exact hm γ a w hs
  obtain ⟨y, y1, y2⟩ := run_sliceV (P := P) hsl (hx γ a w hs) (vlo := some (a.eval ol)) (vhi := some (a.eval oh)) (vmx := om.map a.eval) (hl γ a w hs) (hh γ a w hs) rm
  exact ⟨y, by simp [execOp, hop, y1], y2⟩
 rw [hdst] at this
 exact this
def Rule.cap2 {α : Type} {ty : Ty α} {t e : TypeId} {z : Nat} (ox ol oh : Operand) (d b len : Nat) (l : List α) (kl kh : IntKind) (vl vh : Int) (ht : P.underlying t = some (.slice e)) (hi : (P.info? e).map TypeInfo.size = some z) : Rule P G Unit where
 op := .slice t ox (some ol) (some oh) none
 dst := some d
 vals := [(ox, .ref b 0 len), (ol, .int kl vl), (oh, .int kh vh)]
 blks := [(b, ⟨z, true, l.map ty.c⟩)]
 o := bif decide (0 ≤ vl ∧ vl ≤ vh ∧ vh ≤ l.length) then some () else none
 ws := fun _ => [.t d (.ref b vl.toNat (vh.toNat - vl.toNat))]
 dt := []
 dat := fun _ _ _ _ h => by simp at h
 ok := fun _ ho x st hop hdst hvs hb hd => by
  have hc : 0 ≤ vl ∧ vl ≤ vh ∧ vh ≤ l.length := by
   cases hcc : decide (0 ≤ vl ∧ vl ≤ vh ∧ vh ≤ l.length) with
   | false => rw [hcc] at ho; simp at ho
   | true => simpa using hcc
  obtain ⟨ei, hi, hz⟩ := Option.map_eq_some_iff.1 hi
  exact effO_cut (om := none) (mx := none) hop hdst (hd d rfl).1 ht hi hz.symm (hb (b, ⟨z, true, l.map ty.c⟩) (by simp)) (hvs (ox, .ref b 0 len) (by simp)) (hvs (ol, .int kl vl) (by simp)) (hvs (oh, .int kh vh) (by simp)) trivial
   (by unfold hiR; simp only [List.length_map]; rw [if_pos ⟨by omega, .inr hc.2.2⟩]) (by unfold loV; simp only; rw [if_pos (by omega)])
def Rule.cap3 {α : Type} {ty : Ty α} {t e : TypeId} {z : Nat} (ox ol oh om : Operand) (d b len : Nat) (l : List α) (kl kh km : IntKind) (vl vh vm : Int) (ht : P.underlying t = some (.slice e)) (hi : (P.info? e).map TypeInfo.size = some z) : Rule P G Unit where
 op := .slice t ox (some ol) (some oh) (some om)
 dst := some d
 vals := [(ox, .ref b 0 len), (ol, .int kl vl), (oh, .int kh vh), (om, .int km vm)]
 blks := [(b, ⟨z, true, l.map ty.c⟩)]
 o := bif decide (0 ≤ vl ∧ vl ≤ vh ∧ vh ≤ vm ∧ vm = l.length) then some () else none
 ws := fun _ => [.t d (.ref b vl.toNat (vh.toNat - vl.toNat))]
 dt := []
 dat := fun _ _ _ _ h => by simp at h
 ok := fun _ ho x st hop hdst hvs hb hd => by
  have hc : 0 ≤ vl ∧ vl ≤ vh ∧ vh ≤ vm ∧ vm = l.length := by
   cases hcc : decide (0 ≤ vl ∧ vl ≤ vh ∧ vh ≤ vm ∧ vm = l.length) with
   | false => rw [hcc] at ho; simp at ho
   | true => simpa using hcc
  obtain ⟨ei, hi, hz⟩ := Option.map_eq_some_iff.1 hi
  exact effO_cut (om := some om) (mx := some (.int km vm)) hop hdst (hd d rfl).1 ht hi hz.symm (hb (b, ⟨z, true, l.map ty.c⟩) (by simp)) (hvs (ox, .ref b 0 len) (by simp)) (hvs (ol, .int kl vl) (by simp)) (hvs (oh, .int kh vh) (by simp)) (hvs (om, .int km vm) (by simp))
   (by unfold hiR; simp only [List.length_map]; rw [if_pos (by omega)]) (by unfold loV; simp only; rw [if_pos (by omega)])
theorem run_cutU {γ : Gh} {w : World} {bs : Nat → Option Blk} {u : Nat → Bool} {t e : TypeId} {ei : TypeInfo} {b len : Nat} {k : Blk} {kl kh km : IntKind} {vl vh vm : Int} {v : Value} (hu : P.underlying t = some (.slice e)) (hi' : P.info? e = some ei) (hk : bs b = some k)
  (hr : Rep γ w bs u (.ref b 0 len) v) (hc : 0 ≤ vl ∧ vl ≤ vh ∧ vh ≤ vm ∧ vm ≤ k.rows.length) : ∃ y, (Instr.sliceAt t v (some (.int kl vl)) (some (.int kh vh)) (some (.int km vm))).run P w = .ok y w := by
 have fin : ∀ (n cap : Nat) (a : Option Addr), vm ≤ cap → ∃ y, (Instr.sliceAt t (.slice a n cap) (some (.int kl vl)) (some (.int kh vh)) (some (.int km vm))).run P w = .ok y w := fun n cap a hcap => by
  have h1 : ∀ code, (Instr.sliceBound (.int km vm) cap code).run P w = .ok vm.toNat w := fun code => run_sliceBound w km vm cap code (by omega) (by omega)
  have h2 : ∀ code, (Instr.sliceBound (.int kh vh) vm.toNat code).run P w = .ok vh.toNat w := fun code => run_sliceBound w kh vh vm.toNat code (by omega) (by omega)
  have h3 : ∀ code, (Instr.sliceBound (.int kl vl) vh.toNat code).run P w = .ok vl.toNat w := fun code => run_sliceBound w kl vl vh.toNat code (by omega) (by omega)
  have hb : (Instr.sliceBounds true n cap (some (.int kl vl)) (some (.int kh vh)) (some (.int km vm))).run P w = .ok (vl.toNat, vh.toNat, vm.toNat) w := by
   simp [Instr.sliceBounds, Sem.run_bind, Result.andThen_ok, h1, h2, h3]
  cases a with
  | some a => exact ⟨.slice (if vm.toNat = vl.toNat then some a else some (a.add (vl.toNat * ei.size))) (vh.toNat - vl.toNat) (vm.toNat - vl.toNat), by simp [Instr.sliceAt, Instr.slice, run_underlying hu, hb, sizeOf, typeInfo, hi']⟩
  | none => exact ⟨.slice none (vh.toNat - vl.toNat) (vm.toNat - vl.toNat), by simp [Instr.sliceAt, Instr.slice, run_underlying hu, hb, sizeOf, typeInfo, hi']⟩
 rcases hr.ref_inv hk with ⟨B, o, cap, rfl, hl, c1, c2, c3, hz, hcp⟩ | ⟨B, rfl, rfl, c1, hz⟩ | ⟨rfl, rfl, c1, hz⟩
 ·exact fin _ _ _ (by omega)
 ·exact fin _ _ _ (by omega)
 ·exact fin _ _ _ (by omega)
def Rule.cap3u {α : Type} {ty : Ty α} {t e : TypeId} {z : Nat} (ox ol oh om : Operand) (d b len : Nat) (l : List α) (kl kh km : IntKind) (vl vh vm : Int) (ht : P.underlying t = some (.slice e)) (hi : (P.info? e).isSome = true) : Rule P G Unit where
 op := .slice t ox (some ol) (some oh) (some om)
 dst := some d
 vals := [(ox, .ref b 0 len), (ol, .int kl vl), (oh, .int kh vh), (om, .int km vm)]
 blks := [(b, ⟨z, true, l.map ty.c⟩)]
 o := bif decide (0 ≤ vl ∧ vl ≤ vh ∧ vh ≤ vm ∧ vm ≤ l.length) then some () else none
 ws := fun _ => [.t d .undef]
 dt := []
 dat := fun _ _ _ _ h => by simp at h
 ok := fun _ ho x st hop hdst hvs hb hd => by
  have hc : 0 ≤ vl ∧ vl ≤ vh ∧ vh ≤ vm ∧ vm ≤ l.length := by
   cases hcc : decide (0 ≤ vl ∧ vl ≤ vh ∧ vh ≤ vm ∧ vm ≤ l.length) with
   | false => rw [hcc] at ho; simp at ho
   | true => simpa using hcc
  obtain ⟨ei, hi⟩ := Option.isSome_iff_exists.1 hi
  have hk : st.b b = some ⟨z, true, l.map ty.c⟩ := hb (b, ⟨z, true, l.map ty.c⟩) (by simp)
  have := effO_pure (P := P) (G := G) (o := x) (st := st) (c := .undef) (by rw [hdst]; simpa [dstOk] using (hd d rfl).1) fun γ a w hs => by
   have e1 := (hvs (ol, .int kl vl) (by simp) γ a w hs).int_inv
   have e2 := (hvs (oh, .int kh vh) (by simp) γ a w hs).int_inv
   have e3 := (hvs (om, .int km vm) (by simp) γ a w hs).int_inv
   simp only at e1 e2 e3
   obtain ⟨y, hy⟩ := run_cutU (P := P) (kl := kl) (kh := kh) (km := km) ht hi hk (hvs (ox, .ref b 0 len) (by simp) γ a w hs) (vl := vl) (vh := vh) (vm := vm) (by simpa using hc)
   exact ⟨y, by simp [execOp, hop, e1, e2, e3, hy], .undef _⟩
  rw [hdst] at this
  exact this
end
theorem CallC.trim {P : Program} {G : Nat → Option (List V)} {f : FuncId} {args : List V} {ins : Nat → Option Blk} {d m : Nat} {k : Blk} (h : CallC P G f args ins (.ref d 0 m) (ofL [(d, k)])) (hd : d < 1000000) (hx : k.excl = true) (hm : m ≤ k.rows.length)
  (hdat : ∀ r, r ∈ k.rows → ∀ c, c ∈ r → dcell c = true ∧ c.isOwn = false) :
  CallC P G f args ins (.ref d 0 m) (ofL [(d, ⟨k.size, k.excl, k.rows.take m⟩)]) := fun γ w vs hg ho ha hb => by
 refine (h γ w vs hg ho ha hb).mono fun e w' hq => ?_
 obtain ⟨v, γ', rfl, hg, hpin, hr, hbo, hown⟩ := hq
 have e1 : ofL [(d, k)] d = some k := by simp [ofL]
 have e2 : ofL [(d, (⟨k.size, k.excl, k.rows.take m⟩ : Blk))] d = some ⟨k.size, k.excl, k.rows.take m⟩ := by simp [ofL]
 have e3 : ∀ b, b ≠ d → ofL [(d, k)] b = none ∧ ofL [(d, (⟨k.size, k.excl, k.rows.take m⟩ : Blk))] b = none := fun b hne => by
  have : (d == b) = false := by simpa using fun e => hne e.symm
  exact ⟨by simp [ofL, this], by simp [ofL, this]⟩
 have hlen : (k.rows.take m).length = m := by simp; omega
 have hdata : ∀ (c : V) (v : Value), dcell c = true → Rep γ' w' (ofL [(d, k)]) (fun _ => true) c v → Rep γ' w' (ofL [(d, (⟨k.size, k.excl, k.rows.take m⟩ : Blk))]) (fun _ => true) c v := fun c v hc hr => .data (dcell_data hc hr)
 refine ⟨v, γ', rfl, hg, fun b hb' => ?_, ?_, fun b q hq => ?_, hown⟩
 ·obtain ⟨p1, p2, p3⟩ := hpin b hb'
  have hne : b ≠ d := fun e => by omega
  refine ⟨p1, fun hu hn => (e3 b hne).2, fun q hq => ⟨(p3 q hq).1, .inl (e3 b hne).2⟩⟩
 ·rcases hr.ref_inv e1 with ⟨B, o, cap, rfl, hl, hil, hcap, hroom, hM, hcp⟩ | ⟨B, rfl, rfl, h0, hM⟩ | ⟨rfl, rfl, h0, hM⟩
  ·have := Rep.ref (γ := γ') (w := w') (bs := ofL [(d, (⟨k.size, k.excl, k.rows.take m⟩ : Blk))]) (u := fun _ => true) d 0 m B o cap ⟨k.size, k.excl, k.rows.take m⟩ e2 hl (by show 0 + m ≤ (k.rows.take m).length; omega) hcap hroom hM (by show (k.rows.take m).length ≤ 0 + cap; omega)
   exact this
  ·exact .refE d 0 B ⟨k.size, k.excl, k.rows.take 0⟩ e2 hM (by simp)
  ·exact .refN d 0 ⟨k.size, k.excl, k.rows.take 0⟩ e2 hM (by simp)
 ·by_cases hbd : b = d
  ·subst hbd
   rw [e2] at hq
   simp only [Option.some.injEq] at hq
   subst hq
   rcases hbo b k e1 with ⟨v1, v2⟩ | hmp | ⟨hM, B, o, cs, e, a1, a2, a3, a4, a5, a6, a7, a8⟩
   ·exact .inl ⟨v1, by simp [v2]⟩
   ·rcases hr.ref_inv e1 with ⟨_, _, _, _, _, _, _, _, hM, _⟩ | ⟨_, _, _, _, hM⟩ | ⟨_, _, _, hM⟩ <;> exact (hmp.small hM).elim
   ·have hle : m * k.size ≤ k.rows.length * k.size := Nat.mul_le_mul_right _ hm
    refine .inr (.inr ⟨hM, B, o, cs, e, a1, a2, a3, fun r hr => a4 r (List.mem_of_mem_take hr), by show o + (k.rows.take m).length * k.size ≤ _; rw [hlen]; omega, fun i c hc => ?_, a7, by rw [a7 hx]; exact Nat.zero_le _⟩)
    have hc' : k.rows.flatten[i]? = some c := by
     have := flatten_take_drop k.rows a4 0 m i c (by simpa using hc)
     simpa using this
    obtain ⟨y, b1, b2, b3, _⟩ := a6 i c hc'
    obtain ⟨r, r1, r2⟩ := List.mem_flatten.1 (List.mem_of_getElem? hc')
    obtain ⟨d1, d2⟩ := hdat r r1 c r2
    exact ⟨y, b1, hdata c y d1 b2, b3, .of_not_own d2⟩
  ·rw [(e3 b hbd).2] at hq; simp at hq
noncomputable def Spec.trim {P : Program} {G : Nat → Option (List V)} {α : Type} (s : Spec P G (List α × Nat)) (ty : Ty α) (d z : Nat) (hd : d < 1000000) (hs : ∀ y, ty.c y = ty.d y) (hr : ∀ r, s.res r = .ref d 0 r.2) (ho : ∀ r, s.outs r = [(d, ⟨z, true, r.1.map ty.c⟩)]) : Spec P G (List α) where
  f := s.f
  args := s.args
  ins := s.ins
  o := match s.o with | some r => bif decide (r.2 ≤ r.1.length) then some (r.1.take r.2) else none | none => none
  res := fun l => .ref d 0 l.length
  outs := fun l => [(d, ⟨z, true, l.map ty.c⟩)]
  dt := [d]
  dat := fun _ p hp _ => by rw [List.mem_singleton.1 hp]; exact ty.data _
  ok := fun l hl => by
    split at hl
    · rename_i r hso
      cases hc : decide (r.2 ≤ r.1.length) with
      | false => rw [hc] at hl; simp at hl
      | true =>
        rw [hc] at hl
        simp only [cond_true, Option.some.injEq] at hl
        subst hl
        have hc : r.2 ≤ r.1.length := by simpa using hc
        have h := s.ok r hso
        rw [hr, ho] at h
        have k := h.trim (m := r.2) hd rfl (by simpa using hc) fun q hq c hcq => by
          obtain ⟨y, _, rfl⟩ := List.mem_map.1 hq
          exact ⟨List.all_eq_true.1 (ty.cd y) c hcq, Ty.notOwn hs y hcq⟩
        have e1 : (r.1.take r.2).length = r.2 := by simp; omega
        rw [e1, List.map_take]
        exact k
    · simp at hl
end Go.EV
namespace Go.EV
open Go
def Ok {P : Program} {G : Nat → Option (List V)} {ρ : Type} (g : T P G ρ) (Q : ρ → Prop) : Prop := ∃ r, g.run = some r ∧ Q r
def SOk {P : Program} {G : Nat → Option (List V)} {ρ : Type} (s : Spec P G ρ) (Q : ρ → Prop) : Prop := ∃ r, s.o = some r ∧ Q r
section
variable {P : Program} {G : Nat → Option (List V)} {ρ : Type} {Q : ρ → Prop}
theorem SOk.mono {s : Spec P G ρ} {R : ρ → Prop} (h : SOk s R) (hq : ∀ r, R r → Q r) : SOk s Q := let ⟨r, h1, h2⟩ := h; ⟨r, h1, hq r h2⟩
theorem SOk.eq {s : Spec P G ρ} {r : ρ} (h : SOk s (fun x => x = r)) : s.o = some r := by obtain ⟨x, h1, rfl⟩ := h; exact h1
theorem Ok.done {r : ρ} (h : Q r) : Ok (.done r : T P G ρ) Q := ⟨r, rfl, h⟩
theorem Ok.br {a : Nat} {c : Bool} {x y : T P G ρ} (h1 : c = true → Ok x Q) (h2 : c = false → Ok y Q) : Ok (.br a c x y) Q := by
 cases c with
 | true => obtain ⟨r, e, hq⟩ := h1 rfl; exact ⟨r, e, hq⟩
 | false => obtain ⟨r, e, hq⟩ := h2 rfl; exact ⟨r, e, hq⟩
theorem Ok.tt {k : T P G ρ} (h : Ok k Q) : Ok (.tt k) Q := h
theorem Ok.ff {k : T P G ρ} (h : Ok k Q) : Ok (.ff k) Q := h
theorem Ok.re {a : Nat} {w : ReW} {k : T P G ρ} (h : Ok k Q) : Ok (.re a w k) Q := h
theorem Ok.gh {a : Nat} {w : GhW} {k : T P G ρ} (h : Ok k Q) : Ok (.gh a w k) Q := h
theorem Ok.chk {a : Nat} {c : Bool} {k : T P G ρ} (hc : c = true) (h : Ok k Q) : Ok (.chk a c k) Q := by
 subst hc; obtain ⟨r, e, hq⟩ := h; exact ⟨r, e, hq⟩
theorem Ok.row {α : Type} {a : Nat} {ty : Ty α} {l : List α} {j : Nat} {c : Bool} {k : α → T P G ρ} {x : α} (hc : c = true) (hx : l[j]? = some x) (h : Ok (k x) Q) : Ok (.row a ty l j c k) Q := by
 subst hc; obtain ⟨r, e, hq⟩ := h
 exact ⟨r, by simp only [T.run, cond_true, hx]; exact e, hq⟩
theorem Ok.rowt {α : Type} {a col : Nat} {ty : Ty α} {l : List α} {j : Nat} {k : α → T P G ρ} {x : α} (hx : l[j]? = some x) (h : Ok (k x) Q) : Ok (.rowt a ty l j col k) Q := by
 obtain ⟨r, e, hq⟩ := h
 exact ⟨r, by simp only [T.run, hx]; exact e, hq⟩
theorem Ok.cutg {α : Type} {a b : Nat} {ty : Ty α} {l : List α} {n : Nat} {hs : ∀ y, ty.c y = ty.d y} {k : T P G ρ} (hn : n ≤ l.length) (h : Ok k Q) : Ok (.cutg a b ty l n hs k) Q := by
 obtain ⟨r, e, hq⟩ := h
 exact ⟨r, by simp only [T.run, decide_eq_true hn, cond_true]; exact e, hq⟩
theorem Ok.nst0 {α β : Type} {a : Nat} {ty : Ty α} {l : List α} {hole : List V} {j col : Nat} {y : α} {ty2 : Ty β} {o : List β} {k : T P G ρ} (hj : j < l.length) (h : Ok k Q) : Ok (.nst a ty l hole j col y ty2 o none k) Q := by
 obtain ⟨r, e, hq⟩ := h
 exact ⟨r, by simp only [T.run, List.getElem?_eq_getElem hj]; exact e, hq⟩
theorem Ok.app {α : Type} {a : Nat} {ty : Ty α} {l x : List α} {bytes : Nat} {fl : Bool} {hf : fl = true → ∀ y, ty.c y = ty.d y} {k : T P G ρ} (hn : (l.length + x.length) * bytes ≤ 140737488355328) (h : Ok k Q) : Ok (.app a ty l x bytes fl hf k) Q := by
 obtain ⟨r, e, hq⟩ := h
 exact ⟨r, by simp only [T.run, decide_eq_true hn, cond_true]; exact e, hq⟩
theorem Ok.appn {α β : Type} {a : Nat} {ty : Ty α} {l : List α} {y : α} {col d2 : Nat} {ty2 : Ty β} {o : List β} {bytes : Nat} {k : T P G ρ} (hn : (l.length + 1) * bytes ≤ 140737488355328) (h : Ok k Q) : Ok (.appn a ty l y col d2 ty2 o bytes k) Q := by
 obtain ⟨r, e, hq⟩ := h
 exact ⟨r, by simp only [T.run, decide_eq_true hn, cond_true]; exact e, hq⟩
theorem Ok.call {α : Type} {a : Nat} {s : Spec P G α} {Li Lo : List (Nat × Nat)} {k : α → T P G ρ} {R : α → Prop} (hs : SOk s R) (h : ∀ r, R r → Ok (k r) Q) : Ok (.call a s Li Lo k) Q := by
 obtain ⟨x, e1, hr⟩ := hs
 obtain ⟨r, e, hq⟩ := h x hr
 exact ⟨r, by simp only [T.run, e1]; exact e, hq⟩
theorem Ok.view {α : Type} {a : Nat} {s : Spec P G α} {vs : List VwW} {k : α → T P G ρ} {R : α → Prop} (hs : SOk s R) (h : ∀ r, R r → Ok (k r) Q) : Ok (.view a s vs k) Q := by
 obtain ⟨x, e1, hr⟩ := hs
 obtain ⟨r, e, hq⟩ := h x hr
 exact ⟨r, by simp only [T.run, e1]; exact e, hq⟩
theorem Ok.call2 {α β : Type} {a : Nat} {s : Spec P G (α ⊕ β)} {Li Lo : List (Nat × Nat)} {k : α → T P G ρ} {k2 : β → T P G ρ} {R : α ⊕ β → Prop} (hs : SOk s R) (h : ∀ r, R (.inl r) → Ok (k r) Q) (h2 : ∀ r, R (.inr r) → Ok (k2 r) Q) : Ok (.call2 a s Li Lo k k2) Q := by
 obtain ⟨x, e1, hr⟩ := hs
 cases x with
 | inl x => obtain ⟨r, e, hq⟩ := h x hr; exact ⟨r, by simp only [T.run, e1]; exact e, hq⟩
 | inr x => obtain ⟨r, e, hq⟩ := h2 x hr; exact ⟨r, by simp only [T.run, e1]; exact e, hq⟩
theorem Ok.cnd {ε : Type} {id : Nat} {ts : List Nat} {first : T P G ε} {E : ε → List V} {k : ε → T P G ρ} {R : ε → Prop} (hf : Ok first R) (h : ∀ e, R e → Ok (k e) Q) : Ok (.cnd id ts first E k) Q := by
 obtain ⟨x, e1, hr⟩ := hf
 obtain ⟨r, e, hq⟩ := h x hr
 exact ⟨r, by simp only [T.run, e1]; exact e, hq⟩
theorem Ok.bind {ε : Type} {j : Nat} {first : T P G ε} {E : ε → Ext} {k : ε → T P G ρ} {R : ε → Prop} (hf : Ok first R) (h : ∀ e, R e → Ok (k e) Q) : Ok (.bind j first E k) Q := by
 obtain ⟨x, e1, hr⟩ := hf
 obtain ⟨r, e, hq⟩ := h x hr
 exact ⟨r, by simp only [T.run, e1]; exact e, hq⟩
theorem Ok.bind2 {ε ζ : Type} {j : Nat} {first : T P G (ε ⊕ ζ)} {E : ε → Ext} {E2 : ζ → Ext} {k : ε → T P G ρ} {k2 : ζ → T P G ρ} {R : ε ⊕ ζ → Prop} (hf : Ok first R) (h : ∀ e, R (.inl e) → Ok (k e) Q) (h2 : ∀ e, R (.inr e) → Ok (k2 e) Q) : Ok (.bind2 j first E E2 k k2) Q := by
 obtain ⟨x, e1, hr⟩ := hf
 cases x with
 | inl x => obtain ⟨r, e, hq⟩ := h x hr; exact ⟨r, by simp only [T.run, e1]; exact e, hq⟩
 | inr x => obtain ⟨r, e, hq⟩ := h2 x hr; exact ⟨r, by simp only [T.run, e1]; exact e, hq⟩
theorem Ok.ceq {a : Nat} {n : Int} {vs : List Int} {k : Int → T P G ρ} (hn : vs.contains n = true) (h : Ok (k n) Q) : Ok (.ceq a n vs k) Q := by
 obtain ⟨r, e, hq⟩ := h
 exact ⟨r, by simp only [T.run, hn, cond_true]; exact e, hq⟩
theorem iter_inv {σ ε : Type} {f : σ → Option (σ ⊕ ε)} (I : σ → Prop) (μ : σ → Nat) (R : ε → Prop)
  (step : ∀ x, I x → ∃ r, f x = some r ∧ (match r with | .inl y => I y ∧ μ y < μ x | .inr e => R e)) : ∀ n x, I x → μ x < n → ∃ e, iter f n x = some e ∧ R e
 | 0, x, _, h => absurd h (Nat.not_lt_zero _)
 | n + 1, x, hx, h => by
  have e1 : iter f (n + 1) x = (match f x with | none => none | some (.inl y) => iter f n y | some (.inr e) => some e) := rfl
  rw [e1]
  obtain ⟨r, hr, hq⟩ := step x hx
  rw [hr]
  cases r with
  | inl y => exact iter_inv I μ R step n y hq.1 (by have := hq.2; omega)
  | inr e => exact ⟨e, rfl, hq⟩
def Rnd {σ ε : Type} (I : σ → Prop) (μ : σ → Nat) (m : Nat) (R : ε → Prop) : σ ⊕ ε → Prop
 | .inl y => I y ∧ μ y < m
 | .inr e => R e
theorem Ok.lp {σ ε : Type} {S : σ → Ext} {body : σ → T P G (σ ⊕ ε)} {x : σ} {R : ε → Prop} (I : σ → Prop) (μ : σ → Nat) (hx : I x) (hm : μ x < FUEL) (step : ∀ y, I y → Ok (body y) (Rnd I μ (μ y) R)) : Ok (.lp S body x) R := by
 refine iter_inv I μ R (fun y hy => ?_) FUEL x hx hm
 obtain ⟨r, h1, h2⟩ := step y hy
 refine ⟨r, h1, ?_⟩
 cases r <;> exact h2
end
end Go.EV
namespace Go.EV
open Go
end Go.EV
