/- The value-level logic: steps that change only how a state is told: a nil slice told as a slice of a block without rows.
   The value-level logic: a local slice laid into a cell with the right to its block, and taken out again; no conditions.
   The value-level logic: a slice that stands in a cell with its right, taken out as a local slice when it is loaded; no conditions.
   The value-level logic: more steps that change only how a state is told: cells told otherwise, a block's name changed, a block given up; no conditions.
   Guided execution: the guide (a tree that says what a function's body comes to), what it is worth, and what is checked of it. Definitions and first lemmas; no conditions.
   Guided execution: the executor, which goes through a function's body by its guide and says what is to be checked. Definitions; no conditions. -/
import Derived.Test.YtdiagiflihpidaaDoorA3
import Derived.KernelRfl

namespace Go.EV
open Go

/-- One state may be told as another. -/
def Gst (G : Nat → Option (List V)) (st st' : St) : Prop :=
  ∀ (γ : Gh) (tmps : Array Value) (w : World), Sim G γ st tmps w → ∃ γ', Sim G γ' st' tmps w ∧ Grow γ w γ' w ∧ Pin γ st.b st.u γ' st'.b st'.u

theorem TV.ghost {P : Program} {G : Nat → Option (List V)} {c : Code} {st st' : St} {Q : Exit → St → Prop} (g : Gst G st st') (h : TV P G c st' Q) : TV P G c st Q := fun fx γ a w hs hd => by
  obtain ⟨γ', h1, h2, h3⟩ := g γ a.tmps w hs
  exact wpIn_mono (h fx γ' a w h1 hd) fun _ _ _ hl => hl.grow ⟨h2, h3⟩

theorem Gst.trans {G : Nat → Option (List V)} {a b c : St} (h : Gst G a b) (k : Gst G b c) : Gst G a c := fun γ tmps w hs => by
  obtain ⟨γ1, h1, h2, h3⟩ := h γ tmps w hs
  obtain ⟨γ2, k1, k2, k3⟩ := k γ1 tmps w h1
  exact ⟨γ2, k1, h2.trans k2, h3.trans k3⟩

theorem Gst.forget {G : Nat → Option (List V)} {st st' : St} (f : Forget st st') : Gst G st st' := fun γ _ w hs => ⟨γ, f.sim hs, .refl γ w, f.pin hs⟩

/-- A block without rows. -/
theorem Sim.virt {G : Nat → Option (List V)} {γ : Gh} {st : St} {tmps : Array Value} {w : World} (h : Sim G γ st tmps w) {d size : Nat} (hu : st.u d = false) :
    ∃ γ', Sim G γ' (st.setB d ⟨size, true, []⟩) tmps w ∧ Grow γ w γ' w ∧ BsLe γ st.b st.u γ' (st.setB d ⟨size, true, []⟩).b (st.setB d ⟨size, true, []⟩).u := by
  let γ' : Gh := { loc := fun b => if b = d then none else γ.loc b, own := γ.own, lim := γ.lim }
  have g : Grow γ w γ' w := ⟨rfl, rfl, rfl, Nat.le_refl _, fun _ _ _ _ h => h, fun _ _ => Nat.le_refl _, fun _ _ h => ⟨rfl, h, rfl⟩, fun _ cs _ _ h => ⟨cs, h, rfl⟩⟩
  have bl : BsLe γ st.b st.u γ' (st.setB d ⟨size, true, []⟩).b (st.setB d ⟨size, true, []⟩).u := h.bsLe_new hu fun b hb => by simp only [γ']; rw [if_neg hb]
  refine ⟨γ', ⟨h.n, fun i => (h.t i).mono g bl, fun b k hk => ?_, fun b k hk => ?_, h.g.grow g, h.o⟩, g, bl⟩
  · simp only [St.setB] at hk
    by_cases hb : b = d
    · subst hb
      rw [if_pos rfl] at hk
      simp only [Option.some.injEq] at hk; subst hk
      exact .inl ⟨by simp [γ'], rfl⟩
    · rw [if_neg hb] at hk
      rcases h.b b k hk with ⟨v1, v2⟩ | ⟨B, o, cs', e', h1, h2, h3, h4, h5, h6, h7, h8⟩
      · exact .inl ⟨by simp only [γ']; rw [if_neg hb]; exact v1, v2⟩
      · refine .inr ⟨B, o, cs', e', by simp only [γ']; rw [if_neg hb]; exact h1, h2, h3, h4, h5, fun i c hc => ?_, h7, h8⟩
        obtain ⟨v, a1, a2, a3, a4⟩ := h6 i c hc
        exact ⟨v, a1, a2.mono g bl, a3, a4⟩
  · simp only [St.setB] at hk ⊢
    by_cases hb : b = d
    · subst hb; simp
    · rw [if_neg hb] at hk; rw [if_neg hb]; exact h.u b k hk

/-- A nil slice in a temp, told as a slice of a block without rows. -/
theorem Gst.virtT {G : Nat → Option (List V)} {st : St} {d t : Nat} (size : Nat) (hu : st.u d = false) (ht : st.t t = .nilsl) : Gst G st ((st.setB d ⟨size, true, []⟩).setT t (.ref d 0 0)) := fun γ tmps w hs => by
  obtain ⟨γ', h1, h2, h3⟩ := hs.virt (size := size) hu
  refine ⟨γ', ⟨h1.n, fun i => ?_, h1.b, h1.u, h1.g, h1.o⟩, h2, h3.pin⟩
  show Rep γ' w _ _ (if i = t then _ else st.t i) _
  by_cases hi : i = t
  · subst hi
    rw [if_pos rfl]
    have inv : ∀ v : Value, Rep γ w st.b st.u .nilsl v → v = .slice none 0 0 := fun v hv => by
      cases hv with
      | data h => cases h; rfl
    have hv : tmps.getD i undef = .slice none 0 0 := inv _ (by rw [← ht]; exact hs.t i)
    rw [hv]
    exact .refN d 0 ⟨size, true, []⟩ (by simp [St.setB, St.setT]) (Nat.le_refl _)
  · rw [if_neg hi]; exact h1.t i

end Go.EV

namespace Go.EV
open Go

/-- A row's cell written over: what stands at a place behind it. -/
theorem flatten_set_get {s : Nat} {rows : List (List V)} (hs : ∀ r, r ∈ rows → r.length = s) {i j : Nat} {row : List V} {c' : V} (hrow : rows[i]? = some row) (hj : j < row.length) {idx : Nat} {c : V}
    (h : (rows.set i (row.set j c')).flatten[idx]? = some c) : 0 < s ∧ ((idx = i * s + j ∧ c = c') ∨ (idx ≠ i * s + j ∧ rows.flatten[idx]? = some c)) := by
  have hi : i < rows.length := (List.getElem?_eq_some_iff.1 hrow).1
  have hrl : row.length = s := hs row (List.mem_of_getElem? hrow)
  have hpos : 0 < s := by omega
  have hall : ∀ q, q ∈ rows.set i (row.set j c') → q.length = s := fun q hq => by
    rcases List.mem_or_eq_of_mem_set hq with hq | rfl
    · exact hs q hq
    · simpa using hrl
  have e : idx = (idx / s) * s + idx % s := by rw [Nat.mul_comm]; exact (Nat.div_add_mod idx s).symm
  have hm := Nat.mod_lt idx hpos
  have hget := flatten_get _ hall (idx / s) (idx % s) hm
  rw [← e, h] at hget
  refine ⟨hpos, ?_⟩
  by_cases hq : idx / s = i
  · rw [hq, List.getElem?_set_self hi] at hget
    simp only [Option.bind_some] at hget
    by_cases hj' : idx % s = j
    · rw [hj', List.getElem?_set_self hj] at hget
      left
      refine ⟨by rw [hq, hj'] at e; exact e, ?_⟩
      simpa using hget
    · rw [List.getElem?_set_ne (fun x => hj' x.symm)] at hget
      right
      refine ⟨fun x => hj' ?_, ?_⟩
      · rw [x, Nat.mul_comm, Nat.mul_add_mod, Nat.mod_eq_of_lt (by omega)]
      · rw [e, flatten_get rows hs _ _ hm, hq, hrow]; exact hget.symm
  · rw [List.getElem?_set_ne (fun x => hq x.symm)] at hget
    right
    refine ⟨fun x => hq ?_, ?_⟩
    · rw [x, Nat.mul_comm, Nat.mul_add_div hpos, Nat.div_eq_of_lt (by omega)]; rfl
    · rw [e, flatten_get rows hs _ _ hm]; exact hget.symm

theorem flatten_len {s : Nat} (rows : List (List V)) (hs : ∀ r, r ∈ rows → r.length = s) : rows.flatten.length = rows.length * s := by
  rw [List.length_flatten]
  have : rows.map List.length = List.replicate rows.length s := List.eq_replicate_iff.2 ⟨by simp, fun n hn => by obtain ⟨r, hr, rfl⟩ := List.mem_map.1 hn; exact hs r hr⟩
  rw [this, List.sum_replicate_nat]

/-- A slice of a whole block of data, seen as data under a bound that lies behind it. -/
theorem BlkOk.slData {γ : Gh} {w : World} {bs : Nat → Option Blk} {u : Nat → Bool} {d : Nat} {kd : Blk} (hd : BlkOk γ w bs u d kd) (hdata : ∀ r, r ∈ kd.rows → ∀ c, c ∈ r → dcell c = true) {lim' : Nat → Nat}
    (hle : ∀ B, γ.lim B ≤ lim' B) (hl : ∀ B o, γ.loc d = some (B, o) → o + kd.rows.length * kd.size ≤ lim' B) {v : Value} (hk : bs d = some kd) {off : Nat} (hoff : off ≤ kd.rows.length) (h : Rep γ w bs u (.ref d off (kd.rows.length - off)) v) (own : Bool) :
    RepD lim' w (.sl own kd.size (kd.rows.drop off)) v := by
  rcases h.ref_inv hk with ⟨B, o, cap, rfl, h1, _, h3, _⟩ | ⟨B, hv, h0, _⟩ | ⟨hv, h0, _⟩
  · rcases hd with ⟨h0, _⟩ | ⟨B', o', cs, e, g1, _, g3, g4, g5, g6, _, _⟩
    · rw [h1] at h0; simp at h0
    rw [h1] at g1; simp only [Option.some.injEq, Prod.mk.injEq] at g1
    obtain ⟨rfl, rfl⟩ := g1
    have hcut : (kd.rows.drop off).take (kd.rows.length - off) = kd.rows.drop off := List.take_of_length_le (by simp)
    have hat : ∀ (j : Nat) (c : V), (kd.rows.drop off).flatten[j]? = some c → ∃ x, (o + off * kd.size + j < lim' B ∧ cellAt w B (o + off * kd.size + j) = some x) ∧ RepD lim' w c x := fun j c hc => by
      rw [← hcut] at hc
      obtain ⟨q1, _⟩ := flatten_cut kd.rows g4 off _ j c hc
      obtain ⟨x, x1, x2, _⟩ := g6 _ c q1
      obtain ⟨r, r1, r2⟩ := List.mem_flatten.1 (List.mem_of_getElem? q1)
      have e1 := (List.getElem?_eq_some_iff.1 q1).1
      rw [flatten_len _ g4] at e1
      have := hl B o h1
      refine ⟨x, ⟨by omega, ?_⟩, (dcell_data (hdata r r1 c r2) x2).mono fun B o v h1 h2 => ⟨Nat.lt_of_lt_of_le h1 (hle B), h2⟩⟩
      unfold cellAt World.cell?
      simp only [g3]
      simpa [Nat.add_assoc] using x1
    have := RepD.sl (lim := lim') (w := w) own kd.size (kd.rows.drop off) B (o + off * kd.size) cap (fun j => (cellAt w B (o + off * kd.size + j)).getD default) (by simpa using h3) (fun r hr => g4 r (List.mem_of_mem_drop hr))
      (fun j c hc => by obtain ⟨x, x1, x2⟩ := hat j c hc; rw [x1.2]; exact ⟨x1.1, rfl⟩) (fun j c hc => by obtain ⟨x, x1, x2⟩ := hat j c hc; rw [x1.2]; exact x2)
    rw [List.length_drop] at this
    exact this
  · have : kd.rows.drop off = [] := List.drop_eq_nil_of_le (by omega)
    rw [this, hv]
    exact .slNil own kd.size (some B)
  · have : kd.rows.drop off = [] := List.drop_eq_nil_of_le (by omega)
    rw [this, hv]
    exact .slNil own kd.size

/-- A whole local slice that stands in a cell is laid there with its right. -/
theorem Gst.nest {G : Nat → Option (List V)} {st : St} {b d i j off : Nat} {k kd : Blk} {row : List V} (hbd : b ≠ d) (hb : st.b b = some k) (hd : st.b d = some kd) (hrow : k.rows[i]? = some row) (hoff : off ≤ kd.rows.length) (hcell : row[j]? = some (.ref d off (kd.rows.length - off)))
    (hdata : ∀ r, r ∈ kd.rows → ∀ c, c ∈ r → dcell c = true) :
    Gst G st ((st.setB b { k with rows := k.rows.set i (row.set j (.sl true kd.size (kd.rows.drop off))) }).delB d) := fun γ tmps w h => by
  let own' : Nat → Option Owner := fun B => match γ.own B with
    | some (.blk x) => if x = d then some (.nest b i j) else some (.blk x)
    | x => x
  let γ' : Gh := { loc := γ.loc, own := own', lim := fun B => match γ.loc d with | some (B0, o) => if B = B0 then o + kd.rows.length * kd.size else γ.lim B | none => γ.lim B }
  have hown : ∀ B x, γ.own B = some x → x ≠ .blk d → own' B = some x := fun B x hx hne => by
    simp only [own', hx]
    cases x with
    | blk y => simp only; rw [if_neg (fun e => hne (by rw [e]))]
    | nest _ _ _ => rfl
  have hownd : ∀ B, γ.own B = some (.blk d) → own' B = some (.nest b i j) := fun B hB => by simp only [own', hB, if_true]
  have hlim : ∀ B, γ.lim B ≤ γ'.lim B ∧ (γ.own B ≠ some (.blk d) → γ'.lim B = γ.lim B) := fun B => by
    simp only [γ']
    rcases h.b d kd hd with ⟨h0, _⟩ | ⟨B0, o, cs, e, a1, a2, _, _, _, _, _, a8⟩
    · rw [h0]; exact ⟨Nat.le_refl _, fun _ => rfl⟩
    · rw [a1]
      simp only
      by_cases hB : B = B0
      · subst hB; rw [if_pos rfl]; exact ⟨a8, fun hx => absurd a2 hx⟩
      · rw [if_neg hB]; exact ⟨Nat.le_refl _, fun _ => rfl⟩
  have g : Grow γ w γ' w := ⟨rfl, rfl, rfl, Nat.le_refl _, fun _ _ _ _ h => h, fun B _ => (hlim B).1, fun B _ ho => ⟨rfl, by show own' B = none; simp only [own', ho], (hlim B).2 (by rw [ho]; simp)⟩, fun _ cs _ _ h => ⟨cs, h, rfl⟩⟩
  let k' : Blk := { k with rows := k.rows.set i (row.set j (.sl true kd.size (kd.rows.drop off))) }
  have bl : BsLe γ st.b st.u γ' ((st.setB b k').delB d).b ((st.setB b k').delB d).u := by
    refine ⟨fun x hx => ?_, fun x hx hn => ?_, fun x q hq => ⟨?_, ?_⟩⟩
    · simp only [St.delB, St.setB]; split; rfl; split; rfl; exact hx
    · simp only [St.delB, St.setB]
      split
      · rfl
      · split
        · rename_i e; subst e; rw [hb] at hn; simp at hn
        · exact hn
    · simp only [St.delB, St.setB]; split; rfl; split; rfl; exact h.u x q hq
    · by_cases hx : x = d
      · exact .inl (by simp [St.delB, hx])
      · by_cases hxb : x = b
        · subst hxb
          rw [hb] at hq; simp only [Option.some.injEq] at hq; subst hq
          exact .inr ⟨k', by simp [St.delB, St.setB, hx], rfl, by simp [k'], rfl⟩
        · exact .inr ⟨q, by simp [St.delB, St.setB, hx, hxb, hq], rfl, Nat.le_refl _, rfl⟩
  refine ⟨γ', ⟨h.n, fun i => (h.t i).mono g bl, fun x q hq => ?_, fun x q hq => ?_, h.g.grow g, fun B x hx => ?_⟩, g, bl.pin⟩
  · have hne : x ≠ d := fun e => by subst e; simp [St.delB] at hq
    have others : ∀ (B' : Nat) (q0 : Blk) (r : Nat), ∀ (c : V) (v : Value) (m : Nat), Right γ w (.nest x r m) c v → Right γ' w (.nest x r m) c v := fun _ _ r c v m hr =>
      (hr.mono fun B hB => ⟨hown B _ hB (by simp), by rw [(hlim B).2 (by rw [hB]; simp)]; exact Nat.le_refl _⟩)
    by_cases hxb : x = b
    · subst hxb
      have hq' : q = k' := by simpa [St.delB, St.setB, hne] using hq.symm
      subst hq'
      rcases h.b x k hb with ⟨h0, hr0⟩ | ⟨B, o, cs, e, a1, a2, a3, a4, a5, a6, a7, a8⟩
      · rw [hr0] at hrow; simp at hrow
      have hj : j < row.length := (List.getElem?_eq_some_iff.1 hcell).1
      have hrl : row.length = k.size := a4 row (List.mem_of_getElem? hrow)
      have hl : γ'.lim B = γ.lim B := (hlim B).2 (by rw [a2]; simp [hne])
      have hlen : k'.rows.length = k.rows.length := by simp [k']
      refine .inr ⟨B, o, cs, e, a1, hown B _ a2 (by simp [hne]), a3, fun r hr => ?_, by rw [hlen]; exact a5, fun idx c hc => ?_, fun hx => hl.trans (a7 hx), by rw [hl, hlen]; exact a8⟩
      · rcases List.mem_or_eq_of_mem_set hr with hr | rfl
        · exact a4 r hr
        · simpa using hrl
      · obtain ⟨hpos, hc⟩ := flatten_set_get a4 hrow hj hc
        rcases hc with ⟨rfl, rfl⟩ | ⟨hne2, hc⟩
        · -- the cell itself
          have hold : k.rows.flatten[i * k.size + j]? = some (.ref d off (kd.rows.length - off)) := by rw [flatten_get k.rows a4 i j (by omega), hrow]; exact hcell
          obtain ⟨v, b1, b2, b3, _⟩ := a6 _ _ hold
          have hrep : RepD γ'.lim w (.sl true kd.size (kd.rows.drop off)) v := (h.b d kd hd).slData hdata (fun B => (hlim B).1) (fun B o hl => by simp only [γ', hl, if_true]; exact Nat.le_refl _) hd hoff b2 true
          refine ⟨v, b1, .data hrep, b3, ?_⟩
          have e1 : (i * k.size + j) / k.size = i := by rw [Nat.mul_comm, Nat.mul_add_div hpos, Nat.div_eq_of_lt (by omega)]; rfl
          have e2 : (i * k.size + j) % k.size = j := by rw [Nat.mul_comm, Nat.mul_add_mod, Nat.mod_eq_of_lt (by omega)]
          show Right γ' w (.nest x ((i * k.size + j) / k.size) ((i * k.size + j) % k.size)) _ v
          rw [e1, e2]
          rcases b2.ref_inv hd with ⟨B1, o1, cap, rfl, c1, _, c3, c4⟩ | ⟨B1, rfl, c0, _⟩ | ⟨rfl, c0, _⟩
          · rcases h.b d kd hd with ⟨z0, _⟩ | ⟨B2, o2, cs2, e2', z1, z2, z3, _⟩
            · rw [c1] at z0; simp at z0
            rw [c1] at z1; simp only [Option.some.injEq, Prod.mk.injEq] at z1
            obtain ⟨rfl, rfl⟩ := z1
            obtain ⟨cs3, e3, fz, y1, y2⟩ := c4
            rw [z3] at y1; simp only [Option.some.injEq, Obj.cells.injEq] at y1
            obtain ⟨rfl, rfl, rfl⟩ := y1
            refine .inr ⟨⟨hownd _ z2, ?_⟩, cs2, e2', z3, ?_⟩
            · show (match γ.loc d with | some (B0, o) => if B1 = B0 then o + kd.rows.length * kd.size else γ.lim B1 | none => γ.lim B1) ≤ _
              rw [c1]
              simp only [if_true, List.length_drop]
              have : off * kd.size + (kd.rows.length - off) * kd.size = kd.rows.length * kd.size := by rw [← Nat.add_mul]; congr 1; omega
              omega
            · show o1 + off * kd.size + cap * kd.size ≤ cs2.size
              rw [Nat.add_mul] at y2; omega
          · exact .inl rfl
          · trivial
        · obtain ⟨v, b1, b2, b3, b4⟩ := a6 idx c hc
          exact ⟨v, b1, b2.mono g bl, b3, others 0 k _ _ _ _ b4⟩
    · have hq' : st.b x = some q := by simpa [St.delB, St.setB, hne, hxb] using hq
      rcases h.b x q hq' with h0 | ⟨B, o, cs, e, a1, a2, a3, a4, a5, a6, a7, a8⟩
      · exact .inl h0
      have hl : γ'.lim B = γ.lim B := (hlim B).2 (by rw [a2]; simp [hne])
      refine .inr ⟨B, o, cs, e, a1, hown B _ a2 (by simp [hne]), a3, a4, a5, fun i c hc => ?_, fun hx => hl.trans (a7 hx), by rw [hl]; exact a8⟩
      obtain ⟨v, b1, b2, b3, b4⟩ := a6 i c hc
      exact ⟨v, b1, b2.mono g bl, b3, others 0 q _ _ _ _ b4⟩
  · simp only [St.delB, St.setB] at hq ⊢
    split
    · rfl
    · rename_i hx
      split
      · rfl
      · rename_i hxb; rw [if_neg hx, if_neg hxb] at hq; exact h.u x q hq
  · have hx' : own' B = some x := hx
    simp only [own'] at hx'
    cases ho : γ.own B with
    | none => rw [ho] at hx'; simp at hx'
    | some y => exact h.o B y ho

end Go.EV

namespace Go.EV
open Go

def takeSt (st : St) (b d i j : Nat) (k : Blk) (row : List V) (size : Nat) (rows : List (List V)) : St :=
  (st.setB b { k with rows := k.rows.set i (row.set j (.sl false size rows)) }).setB d ⟨size, false, rows.map (·.map V.strip)⟩

theorem Sim.take {G : Nat → Option (List V)} {γ : Gh} {st : St} {tmps : Array Value} {w : World} (h : Sim G γ st tmps w) {b d i j size : Nat} {k : Blk} {row : List V} {rows : List (List V)} (hu : st.u d = false) (hb : st.b b = some k)
    (hrow : k.rows[i]? = some row) (hcell : row[j]? = some (.sl true size rows)) {B o : Nat} (hl : γ.loc b = some (B, o)) :
    ∃ γ' v, cellAt w B (o + (i * k.size + j)) = some v ∧ Sim G γ' (takeSt st b d i j k row size rows) tmps w ∧ Grow γ w γ' w ∧
      (Pin γ st.b st.u γ' (takeSt st b d i j k row size rows).b (takeSt st b d i j k row size rows).u ∧ BsLe γ st.b st.u γ' (takeSt st b d i j k row size rows).b (takeSt st b d i j k row size rows).u) ∧ Rep γ' w (takeSt st b d i j k row size rows).b (takeSt st b d i j k row size rows).u (.ref d 0 rows.length) v := by
  have hbd : b ≠ d := fun e => by subst e; rw [h.u b k hb] at hu; simp at hu
  rcases h.b b k hb with ⟨h0, _⟩ | ⟨B', o', cs, e, a1, a2, a3, a4, a5, a6, a7, a8⟩
  · rw [hl] at h0; simp at h0
  rw [hl] at a1; simp only [Option.some.injEq, Prod.mk.injEq] at a1
  obtain ⟨rfl, rfl⟩ := a1
  have hj : j < row.length := (List.getElem?_eq_some_iff.1 hcell).1
  have hrl : row.length = k.size := a4 row (List.mem_of_getElem? hrow)
  have hpos : 0 < k.size := by omega
  obtain ⟨v, v1, v2, v3, v4⟩ := a6 (i * k.size + j) (.sl true size rows) (by rw [flatten_get k.rows a4 i j (by omega), hrow]; exact hcell)
  have e1 : (i * k.size + j) / k.size = i := by rw [Nat.mul_comm, Nat.mul_add_div hpos, Nat.div_eq_of_lt (by omega)]; rfl
  have e2 : (i * k.size + j) % k.size = j := by rw [Nat.mul_comm, Nat.mul_add_mod, Nat.mod_eq_of_lt (by omega)]
  rw [e1, e2] at v4
  let k' : Blk := { k with rows := k.rows.set i (row.set j (.sl false size rows)) }
  let kd : Blk := ⟨size, false, rows.map (·.map V.strip)⟩
  have hk'len : k'.rows.length = k.rows.length := by simp [k']
  -- what is common
  have main : ∀ (γ' : Gh), (∀ c, c ≠ d → γ'.loc c = γ.loc c) → γ'.lim = γ.lim → (∀ X y, γ.own X = some y → y ≠ .nest b i j → γ'.own X = some y) → (∀ X, γ.own X = none → γ'.own X = none) → (∀ X y, γ'.own X = some y → X < w.heap.size) →
      (∀ bs u, BsLe γ st.b st.u γ' bs u → BlkOk γ' w bs u d kd) →
      (∀ bs u, bs d = some kd → Rep γ' w bs u (.ref d 0 rows.length) v) →
      ∃ γ' v, cellAt w B (o + (i * k.size + j)) = some v ∧ Sim G γ' (takeSt st b d i j k row size rows) tmps w ∧ Grow γ w γ' w ∧
        (Pin γ st.b st.u γ' (takeSt st b d i j k row size rows).b (takeSt st b d i j k row size rows).u ∧ BsLe γ st.b st.u γ' (takeSt st b d i j k row size rows).b (takeSt st b d i j k row size rows).u) ∧ Rep γ' w (takeSt st b d i j k row size rows).b (takeSt st b d i j k row size rows).u (.ref d 0 rows.length) v := by
    intro γ' f1 f2 f3 f4 f5 f6 f7
    have g : Grow γ w γ' w := ⟨rfl, rfl, rfl, Nat.le_refl _, fun _ _ _ _ h => h, fun X _ => by rw [f2]; exact Nat.le_refl _, fun X _ ho => ⟨rfl, f4 X ho, by rw [f2]⟩, fun _ cs _ _ h => ⟨cs, h, rfl⟩⟩
    have bl : BsLe γ st.b st.u γ' (takeSt st b d i j k row size rows).b (takeSt st b d i j k row size rows).u := by
      refine ⟨fun x hx => ?_, fun x hx hn => ?_, fun x q hq => ⟨?_, ?_⟩⟩
      · simp only [takeSt, St.setB]; split; rfl; split; rfl; exact hx
      · simp only [takeSt, St.setB]
        split
        · rename_i e; subst e; rw [hu] at hx; simp at hx
        · split
          · rename_i e; subst e; rw [hb] at hn; simp at hn
          · exact hn
      · simp only [takeSt, St.setB]; split; rfl; split; rfl; exact h.u x q hq
      · have hxd : x ≠ d := fun e => by subst e; rw [h.u x q hq] at hu; simp at hu
        by_cases hxb : x = b
        · subst hxb
          rw [hb] at hq; simp only [Option.some.injEq] at hq; subst hq
          exact .inr ⟨k', by simp [takeSt, St.setB, hxd, k'], rfl, by omega, f1 x hxd⟩
        · exact .inr ⟨q, by simp [takeSt, St.setB, hxd, hxb, hq], rfl, Nat.le_refl _, f1 x hxd⟩
    have bd : (takeSt st b d i j k row size rows).b d = some kd := by simp [takeSt, St.setB, kd]
    have rights : ∀ (x p q : Nat) (c : V) (y : Value), (x, p, q) ≠ (b, i, j) → Right γ w (.nest x p q) c y → Right γ' w (.nest x p q) c y := fun x p q c y hne hr =>
      hr.mono fun X hX => ⟨f3 X _ hX (fun e => hne (by simp only [Owner.nest.injEq] at e; simp [e])), by rw [f2]; exact Nat.le_refl _⟩
    refine ⟨γ', v, ?_, ⟨h.n, fun i => (h.t i).mono g bl, fun x q hq => ?_, fun x q hq => ?_, h.g.grow g, f5⟩, g, ⟨bl.pin, bl⟩, f7 _ _ bd⟩
    · unfold cellAt World.cell?
      simp only [a3]
      simpa using v1
    · by_cases hxd : x = d
      · subst hxd
        rw [bd] at hq; simp only [Option.some.injEq] at hq; subst hq
        exact f6 _ _ bl
      · by_cases hxb : x = b
        · subst hxb
          have hq' : q = k' := by simpa [takeSt, St.setB, hxd, k'] using hq.symm
          subst hq'
          refine .inr ⟨B, o, cs, e, by rw [f1 x hxd]; exact hl, f3 B _ a2 (by simp), a3, fun r hr => ?_, by rw [hk'len]; exact a5, fun idx c hc => ?_, fun hx => by rw [f2]; exact a7 hx, by rw [f2, hk'len]; exact a8⟩
          · rcases List.mem_or_eq_of_mem_set hr with hr | rfl
            · exact a4 r hr
            · simpa using hrl
          · obtain ⟨_, hc⟩ := flatten_set_get a4 hrow hj hc
            rcases hc with ⟨rfl, rfl⟩ | ⟨hne2, hc⟩
            · exact ⟨v, v1, (v2.strip).mono g bl, v3, .of_not_own rfl⟩
            · obtain ⟨y, b1, b2, b3, b4⟩ := a6 idx c hc
              refine ⟨y, b1, b2.mono g bl, b3, rights _ _ _ _ _ (fun e => hne2 ?_) b4⟩
              simp only [Prod.mk.injEq, true_and] at e
              have := Nat.div_add_mod idx k.size
              rw [e.1, e.2] at this
              rw [Nat.mul_comm i]; omega
        · have hq' : st.b x = some q := by simpa [takeSt, St.setB, hxd, hxb] using hq
          rcases h.b x q hq' with ⟨z0, z1⟩ | ⟨B2, o2, cs2, e2', c1, c2, c3, c4, c5, c6, c7, c8⟩
          · exact .inl ⟨by rw [f1 x hxd]; exact z0, z1⟩
          refine .inr ⟨B2, o2, cs2, e2', by rw [f1 x hxd]; exact c1, f3 _ _ c2 (by simp), c3, c4, c5, fun i c hc => ?_, fun hx => by rw [f2]; exact c7 hx, by rw [f2]; exact c8⟩
          obtain ⟨y, b1, b2, b3, b4⟩ := c6 i c hc
          exact ⟨y, b1, b2.mono g bl, b3, rights _ _ _ _ _ (fun e => hxb (by simp only [Prod.mk.injEq] at e; exact e.1)) b4⟩
    · simp only [takeSt, St.setB] at hq ⊢
      split
      · rfl
      · rename_i hx
        split
        · rfl
        · rename_i hxb; rw [if_neg hx, if_neg hxb] at hq; exact h.u x q hq
  -- no room: nothing can be written there
  have virt : rows = [] → (v = .slice none 0 0 ∨ ∃ B, v = .slice (some B) 0 0) → _ := fun hr hv => main { loc := fun c => if c = d then none else γ.loc c, own := γ.own, lim := γ.lim } (fun c hc => if_neg hc) rfl (fun _ _ h _ => h) (fun _ h => h) h.o
    (fun bs u _ => .inl ⟨by simp, by simp [kd, hr]⟩) (fun bs u hbs => by
      subst hr
      rcases hv with rfl | ⟨B1, rfl⟩
      · exact .refN d 0 kd hbs (Nat.zero_le _)
      · exact .refE d 0 B1 kd hbs (Nat.zero_le _))
  rcases v2.sl_inv with ⟨a, rfl, hr⟩ | ⟨B1, o1, cap, vs, rfl, s1, s2, s3, s4⟩
  · cases a with
    | none => exact virt hr (.inl rfl)
    | some a => exact virt hr (.inr ⟨a, rfl⟩)
  rcases v4 with rfl | ⟨⟨r1, r2⟩, cs1, e1', r3, r4⟩
  · have : rows = [] := List.length_eq_zero_iff.1 (by omega)
    subst this
    exact virt rfl (.inr ⟨_, rfl⟩)
  simp only at r1 r2 r3 r4
  have hmul : rows.length * size ≤ cap * size := Nat.mul_le_mul_right _ s1
  have hrowsz : ∀ r, r ∈ rows.map (·.map V.strip) → r.length = size := fun r hr => by
    obtain ⟨q, hq, rfl⟩ := List.mem_map.1 hr
    simpa using s2 q hq
  refine main { loc := fun c => if c = d then some (B1, o1) else γ.loc c, own := fun X => if X = B1 then some (.blk d) else γ.own X, lim := γ.lim } (fun c hc => if_neg hc) rfl (fun X y hX hy => ?_) (fun X hX => ?_) (fun X y hX => ?_) (fun bs u bl => ?_) (fun bs u hbs => ?_)
  · show (if X = B1 then some (.blk d) else γ.own X) = some y
    rw [if_neg (fun e => by subst e; rw [r1] at hX; simp only [Option.some.injEq] at hX; exact hy hX.symm)]; exact hX
  · show (if X = B1 then some (.blk d) else γ.own X) = none
    rw [if_neg (fun e => by subst e; rw [r1] at hX; simp at hX)]; exact hX
  · have hX' : (if X = B1 then some (.blk d) else γ.own X) = some y := hX
    split at hX'
    · rename_i e; subst e; exact (Array.getElem?_eq_some_iff.1 r3).1
    · exact h.o X y hX'
  · refine .inr ⟨B1, o1, cs1, e1', by simp, by simp, r3, hrowsz, by simp only [kd, List.length_map]; omega, fun idx c hc => ?_, fun hx => by simp [kd] at hx, by simpa [kd] using r2⟩
    simp only [kd, map_strip_flatten, List.getElem?_map, Option.map_eq_some_iff] at hc
    obtain ⟨c0, hc0, rfl⟩ := hc
    obtain ⟨t1, t2⟩ := s3 idx c0 hc0
    have t3 := s4 idx c0 hc0
    refine ⟨vs idx, ?_, ?_, t3.oneCell, .of_not_own (strip_own c0)⟩
    · unfold cellAt World.cell? at t2
      simp only [r3] at t2
      simpa using t2
    · have g : Grow γ w { loc := fun c => if c = d then some (B1, o1) else γ.loc c, own := fun X => if X = B1 then some (.blk d) else γ.own X, lim := γ.lim } w :=
        ⟨rfl, rfl, rfl, Nat.le_refl _, fun _ _ _ _ h => h, fun X _ => Nat.le_refl _, fun X _ ho => ⟨rfl, by show (if X = B1 then some (Owner.blk d) else γ.own X) = none; rw [if_neg (fun e => by subst e; rw [r1] at ho; simp at ho)]; exact ho, rfl⟩, fun _ cs _ _ h => ⟨cs, h, rfl⟩⟩
      exact (Rep.data (γ := γ) (bs := st.b) (u := st.u) t3).strip.mono g bl
  · have := Rep.ref (γ := { loc := fun c => if c = d then some (B1, o1) else γ.loc c, own := fun X => if X = B1 then some (.blk d) else γ.own X, lim := γ.lim }) (w := w) (bs := bs) (u := u) d 0 rows.length B1 o1 cap kd hbs (by simp) (by simp [kd]) s1
      ⟨cs1, e1', _, r3, by simp only [kd, Nat.zero_add]; exact r4⟩
    simpa [kd] using this

def takeRef (st : St) (b d i j : Nat) (k : Blk) (row : List V) (size : Nat) (rows : List (List V)) : St :=
  (st.setB b { k with rows := k.rows.set i (row.set j (.ref d 0 rows.length)) }).setB d ⟨size, false, rows.map (·.map V.strip)⟩

/-- A slice that stands in a cell with its right, told as a local slice whose name stands in the cell. -/
theorem Gst.take {G : Nat → Option (List V)} {st : St} {b d i j size : Nat} {k : Blk} {row : List V} {rows : List (List V)} (hu : st.u d = false) (hb : st.b b = some k) (hbd : b ≠ d)
    (hrow : k.rows[i]? = some row) (hcell : row[j]? = some (.sl true size rows)) : Gst G st (takeRef st b d i j k row size rows) := fun γ tmps w h => by
  rcases h.b b k hb with ⟨_, h0⟩ | ⟨B, o, cs, e, a1, a2, a3, a4, a5, a6, a7, a8⟩
  · rw [h0] at hrow; simp at hrow
  obtain ⟨γ', v, h1, h2, h3, h4, h5⟩ := h.take hu hb hrow hcell a1
  have hj : j < row.length := (List.getElem?_eq_some_iff.1 hcell).1
  have hrl : row.length = k.size := a4 row (List.mem_of_getElem? hrow)
  have bl : BsLe γ' (takeSt st b d i j k row size rows).b (takeSt st b d i j k row size rows).u γ' (takeRef st b d i j k row size rows).b (takeRef st b d i j k row size rows).u := by
    refine ⟨fun x hx => hx, fun x _ hn => ?_, fun x q hq => ⟨h2.u x q hq, ?_⟩⟩
    · simp only [takeSt, takeRef, St.setB] at hn ⊢
      split
      · rename_i e; rw [if_pos e] at hn; simp at hn
      · rename_i e
        rw [if_neg e] at hn
        split
        · rename_i e2; rw [if_pos e2] at hn; simp at hn
        · rename_i e2; rw [if_neg e2] at hn; exact hn
    · by_cases hxd : x = d
      · subst hxd
        have : q = ⟨size, false, rows.map (·.map V.strip)⟩ := by simpa [takeSt, St.setB] using hq.symm
        subst this
        exact .inr ⟨_, by simp [takeRef, St.setB], rfl, Nat.le_refl _, rfl⟩
      · by_cases hxb : x = b
        · subst hxb
          have : q = { k with rows := k.rows.set i (row.set j (.sl false size rows)) } := by simpa [takeSt, St.setB, hxd] using hq.symm
          subst this
          exact .inr ⟨{ k with rows := k.rows.set i (row.set j (.ref d 0 rows.length)) }, by simp [takeRef, St.setB, hxd], rfl, by simp, rfl⟩
        · exact .inr ⟨q, by simpa [takeSt, takeRef, St.setB, hxd, hxb] using hq, rfl, Nat.le_refl _, rfl⟩
  refine ⟨γ', ⟨h2.n, fun q => (h2.t q).mono (.refl _ _) bl, fun x q hq => ?_, fun x q hq => ?_, h2.g, h2.o⟩, h3, h4.1.trans bl.pin⟩
  · by_cases hxd : x = d
    · subst hxd
      have hq' : (takeSt st b x i j k row size rows).b x = some q := by simpa [takeSt, takeRef, St.setB] using hq
      rcases h2.b x q hq' with z | ⟨B2, o2, cs2, e2, c1, c2, c3, c4, c5, c6, c7, c8⟩
      · exact .inl z
      refine .inr ⟨B2, o2, cs2, e2, c1, c2, c3, c4, c5, fun n c hc => ?_, c7, c8⟩
      obtain ⟨y, b1, b2, b3, b4⟩ := c6 n c hc
      exact ⟨y, b1, b2.mono (.refl _ _) bl, b3, b4⟩
    · by_cases hxb : x = b
      · subst hxb
        have hq' : q = { k with rows := k.rows.set i (row.set j (.ref d 0 rows.length)) } := by simpa [takeRef, St.setB, hxd] using hq.symm
        subst hq'
        have hk2 : (takeSt st x d i j k row size rows).b x = some { k with rows := k.rows.set i (row.set j (.sl false size rows)) } := by simp [takeSt, St.setB, hxd]
        rcases h2.b x _ hk2 with ⟨_, z⟩ | ⟨B2, o2, cs2, e2, c1, c2, c3, c4, c5, c6, c7, c8⟩
        · have hl : i < k.rows.length := (List.getElem?_eq_some_iff.1 hrow).1
          have := congrArg List.length z
          simp at this
          rw [this] at hl; simp at hl
        refine .inr ⟨B2, o2, cs2, e2, c1, c2, c3, fun r hr => ?_, by simpa using c5, fun n c hc => ?_, c7, by simpa using c8⟩
        · rcases List.mem_or_eq_of_mem_set hr with hr | rfl
          · exact a4 r hr
          · simpa using hrl
        · obtain ⟨_, hc'⟩ := flatten_set_get a4 hrow hj hc
          rcases hc' with ⟨rfl, rfl⟩ | ⟨hne, hc'⟩
          · have hc2 : (k.rows.set i (row.set j (.sl false size rows))).flatten[i * k.size + j]? = some (.sl false size rows) := by
              have hz : ∀ r, r ∈ k.rows.set i (row.set j (.sl false size rows)) → r.length = k.size := fun r hr => by
                rcases List.mem_or_eq_of_mem_set hr with hr | rfl
                · exact a4 r hr
                · simpa using hrl
              have hl : i < k.rows.length := (List.getElem?_eq_some_iff.1 hrow).1
              rw [flatten_get _ hz i j (by omega), List.getElem?_set_self hl]
              simp [hj]
            obtain ⟨y, b1, b2, b3, b4⟩ := c6 _ _ hc2
            have hy : y = v := by
              have e1 : cellAt w B2 (o2 + (i * k.size + j)) = some y := by
                unfold cellAt World.cell?
                simp only [c3]
                simpa using b1
              have hloc : γ'.loc x = some (B, o) := by
                rcases h4.2.kept x k hb with ⟨_, z | ⟨_, _, _, _, z⟩⟩
                · rw [hk2] at z; simp at z
                · rw [z]; exact a1
              rw [hloc] at c1
              simp only [Option.some.injEq, Prod.mk.injEq] at c1
              obtain ⟨rfl, rfl⟩ := c1
              rw [h1] at e1
              simpa using e1.symm
            subst hy
            exact ⟨y, b1, h5.mono (.refl _ _) bl, b3, .of_not_own rfl⟩
          · have hc2 : (k.rows.set i (row.set j (.sl false size rows))).flatten[n]? = some c := by
              have hz : ∀ r, r ∈ k.rows.set i (row.set j (.sl false size rows)) → r.length = k.size := fun r hr => by
                rcases List.mem_or_eq_of_mem_set hr with hr | rfl
                · exact a4 r hr
                · simpa using hrl
              have hpos : 0 < k.size := by omega
              have en : n = (n / k.size) * k.size + n % k.size := by rw [Nat.mul_comm]; exact (Nat.div_add_mod n k.size).symm
              have hm := Nat.mod_lt n hpos
              rw [en, flatten_get _ a4 _ _ hm] at hc'
              rw [en, flatten_get _ hz _ _ hm]
              by_cases hi : i = n / k.size
              · subst hi
                have hl : n / k.size < k.rows.length := (List.getElem?_eq_some_iff.1 hrow).1
                rw [List.getElem?_set_self hl]
                rw [hrow] at hc'
                simp only [Option.bind_some] at hc' ⊢
                have hjm : j ≠ n % k.size := fun e => hne (by rw [e]; exact en)
                rw [List.getElem?_set_ne hjm]; exact hc'
              · rw [List.getElem?_set_ne hi]; exact hc'
            obtain ⟨y, b1, b2, b3, b4⟩ := c6 _ _ hc2
            exact ⟨y, b1, b2.mono (.refl _ _) bl, b3, b4⟩
      · have hq' : (takeSt st b d i j k row size rows).b x = some q := by simpa [takeSt, takeRef, St.setB, hxd, hxb] using hq
        rcases h2.b x q hq' with z | ⟨B2, o2, cs2, e2, c1, c2, c3, c4, c5, c6, c7, c8⟩
        · exact .inl z
        refine .inr ⟨B2, o2, cs2, e2, c1, c2, c3, c4, c5, fun n c hc => ?_, c7, c8⟩
        obtain ⟨y, b1, b2, b3, b4⟩ := c6 n c hc
        exact ⟨y, b1, b2.mono (.refl _ _) bl, b3, b4⟩
  · simp only [takeRef, St.setB] at hq ⊢
    split
    · rfl
    · rename_i e1
      split
      · rfl
      · rename_i e2
        rw [if_neg e1, if_neg e2] at hq
        exact h.u x q hq

def isAggT (P : Program) (t : TypeId) : Bool := match P.underlying t with
  | some (.struct _) => true
  | some (.array _ _) => true
  | some _ => false
  | none => true

/-- A load that takes the slice out of its cell. -/
theorem effO_take {P : Program} {G : Nat → Option (List V)} {o : Oper} {st : St} {t : TypeId} {x : Operand} {b d dst i j size : Nat} {k : Blk} {row : List V} {rows : List (List V)} (ho : o.op = .load t x) (hd : o.dst = some dst) (hdn : dst < st.n) (ht : isAggT P t = false)
    (hx : Evs G st x (.ptr b i j)) (hu : st.u d = false) (hb : st.b b = some k) (hrow : k.rows[i]? = some row) (hcell : row[j]? = some (.sl true size rows)) :
    EffO P G o st ((takeSt st b d i j k row size rows).setT dst (.ref d 0 rows.length)) :=
  effO_value fun γ a w hs => by
    obtain ⟨B, o', hv, hl⟩ := (hx γ a w hs).ptr_inv hb
    obtain ⟨γ', v, h1, h2, h3, h4, h5⟩ := hs.take hu hb hrow hcell hl
    refine ⟨v, w, γ', ?_, h3, ?_, ?_⟩
    · have h1' : w.cell? ⟨B, o' + (i * k.size + j), none⟩ = some v := h1
      have : (loadVar t ⟨B, o' + (i * k.size + j), none⟩).run P w = .ok v w := by
        unfold isAggT at ht
        cases hu' : P.underlying t with
        | none => rw [hu'] at ht; simp at ht
        | some dd => cases dd <;> rw [hu'] at ht <;> simp at ht <;> simp [loadVar, run_isAgg_of hu', h1']
      simp [execOp, ho, Instr.loadAt, hv, Instr.sureAddr, this]
    · exact h4.1
    · have := h2.put (a := a) (dst := o.dst) (c := .ref d 0 rows.length) (v := v) (by rw [hd]; show decide (dst < st.n) = true; simpa using hdn) h5
      rw [hd] at this ⊢
      exact this

/-- A load of a struct that takes one of its slices out of its cell. -/
theorem effO_takeAgg {P : Program} {G : Nat → Option (List V)} {o : Oper} {st : St} {t : TypeId} {x : Operand} {b d dst i off j size : Nat} {k : Blk} {row : List V} {rows : List (List V)} {ti : TypeInfo} (ho : o.op = .load t x) (hd : o.dst = some dst) (hdn : dst < st.n)
    (hti : P.info? t = some ti) (hag : isAggT P t = true) (hund : (P.underlying t).isSome = true)
    (hx : Evs G st x (.ptr b i off)) (hu : st.u d = false) (hb : st.b b = some k) (hrow : k.rows[i]? = some row) (hcell : row[j]? = some (.sl true size rows)) (hsz : off + ti.size ≤ row.length) (hj1 : off ≤ j) :
    EffO P G o st ((takeSt st b d i j k row size rows).setT dst (.agg (((row.set j (.ref d 0 rows.length)).drop off).take ti.size))) :=
  effO_value fun γ a w hs => by
    obtain ⟨B, o', hv, hl⟩ := (hx γ a w hs).ptr_inv hb
    obtain ⟨γ', v, h1, h2, h3, h4, h5⟩ := hs.take hu hb hrow hcell hl
    have hbd : b ≠ d := fun e => by subst e; rw [hs.u b k hb] at hu; simp at hu
    have hb' : (takeSt st b d i j k row size rows).b b = some { k with rows := k.rows.set i (row.set j (.sl false size rows)) } := by simp [takeSt, St.setB, hbd]
    have hl' : γ'.loc b = some (B, o') := by
      rcases h2.b b _ hb' with ⟨z0, z1⟩ | ⟨B2, o2, cs2, e2, z1, _⟩
      · have hi : i < k.rows.length := (List.getElem?_eq_some_iff.1 hrow).1
        have := congrArg List.length z1
        simp only [List.length_set, List.length_nil] at this
        omega
      · have hv2 := (hx γ a w hs)
        rcases hs.b b k hb with ⟨y0, _⟩ | ⟨B3, o3, cs3, e3, y1, y2, _⟩
        · rw [hl] at y0; simp at y0
        · have hp := BsLe.kept (γ := γ) (bs := st.b) (u := st.u) (γ' := γ') (bs' := (takeSt st b d i j k row size rows).b) (u' := (takeSt st b d i j k row size rows).u) h4.2 b k hb
          rcases hp.2 with hn | ⟨k2, hk2, _, _, hloc⟩
          · rw [hb'] at hn; simp at hn
          · rw [hloc]; exact hl
    have hi : i < k.rows.length := (List.getElem?_eq_some_iff.1 hrow).1
    have hat := (h2.b b _ hb').row hl' (i := i) (r := row.set j (.sl false size rows)) (by simp [hi])
    have hat2 : CellsAt γ' w (takeSt st b d i j k row size rows).b (takeSt st b d i j k row size rows).u B (o' + i * k.size) (row.set j (.ref d 0 rows.length)) := fun q c hc => by
      by_cases hq : q = j
      · subst hq
        have hjl : q < row.length := (List.getElem?_eq_some_iff.1 hcell).1
        rw [List.getElem?_set_self hjl] at hc
        simp only [Option.some.injEq] at hc
        subst hc
        exact ⟨v, by rw [Nat.add_assoc]; exact h1, h5⟩
      · rw [List.getElem?_set_ne (fun e => hq e.symm)] at hc
        exact hat q c (by rw [List.getElem?_set_ne (fun e => hq e.symm)]; exact hc)
    have hat3 := hat2.drop off
    obtain ⟨vs, hrun, hrep⟩ := run_loadAgg (P := P) hat3 (n := ti.size) (by simp; omega)
    refine ⟨.agg vs, w, γ', ?_, h3, h4.1, ?_⟩
    · have e : o' + i * k.size + off = o' + (i * k.size + off) := by omega
      rw [e] at hrun
      have : (loadVar t ⟨B, o' + (i * k.size + off), none⟩).run P w = .ok (.agg vs) w := by
        cases hu' : P.underlying t with
        | none => rw [hu'] at hund; simp at hund
        | some dd =>
          unfold isAggT at hag
          cases dd <;> rw [hu'] at hag <;> simp at hag <;> simp [loadVar, run_isAgg_of hu', sizeOf, typeInfo, hti, hrun]
      simp [execOp, ho, Instr.loadAt, hv, Instr.sureAddr, this]
    · have := h2.put (a := a) (dst := o.dst) (c := .agg (((row.set j (.ref d 0 rows.length)).drop off).take ti.size)) (v := .agg vs) (by rw [hd]; show decide (dst < st.n) = true; simpa using hdn) hrep
      rw [hd] at this ⊢
      exact this

end Go.EV

namespace Go.EV
open Go

/-- One value may be told as another. -/
def Wk (bs : Nat → Option Blk) (u : Nat → Bool) (c c' : V) : Prop := ∀ (γ : Gh) (w : World) (v : Value), Rep γ w bs u c v → Rep γ w bs u c' v

theorem Wk.refl {bs : Nat → Option Blk} {u : Nat → Bool} (c : V) : Wk bs u c c := fun _ _ _ h => h

def RowsRel (R : V → V → Prop) (rows rows' : List (List V)) : Prop :=
  rows'.length = rows.length ∧ ∀ (i : Nat) (r' : List V), rows'[i]? = some r' → ∃ r, rows[i]? = some r ∧ r'.length = r.length ∧ ∀ (j : Nat) (c' : V), r'[j]? = some c' → ∃ c, r[j]? = some c ∧ R c c'

theorem RowsRel.sizes {R : V → V → Prop} {rows rows' : List (List V)} (h : RowsRel R rows rows') {s : Nat} (hs : ∀ r, r ∈ rows → r.length = s) : ∀ r, r ∈ rows' → r.length = s := fun r' hr => by
  obtain ⟨i, hi⟩ := List.mem_iff_getElem?.1 hr
  obtain ⟨r, h1, h2, _⟩ := h.2 i r' hi
  rw [h2]; exact hs r (List.mem_of_getElem? h1)

theorem RowsRel.flat {R : V → V → Prop} {rows rows' : List (List V)} (h : RowsRel R rows rows') {s : Nat} (hs : ∀ r, r ∈ rows → r.length = s) {i : Nat} {c' : V} (hc : rows'.flatten[i]? = some c') : ∃ c, rows.flatten[i]? = some c ∧ R c c' := by
  have hs' := h.sizes hs
  rcases Nat.eq_zero_or_pos s with h0 | hpos
  · subst h0
    have : rows'.flatten = [] := by
      rw [List.flatten_eq_nil_iff]; exact fun r hr => List.length_eq_zero_iff.1 (hs' r hr)
    rw [this] at hc; simp at hc
  · have e : i = (i / s) * s + i % s := by rw [Nat.mul_comm]; exact (Nat.div_add_mod i s).symm
    have hm := Nat.mod_lt i hpos
    have hget := flatten_get rows' hs' (i / s) (i % s) hm
    rw [← e, hc] at hget
    cases hr : rows'[i / s]? with
    | none => rw [hr] at hget; simp at hget
    | some r' =>
      rw [hr] at hget
      simp only [Option.bind_some] at hget
      obtain ⟨r, h1, _, h3⟩ := h.2 _ r' hr
      obtain ⟨c, h4, h5⟩ := h3 _ c' hget.symm
      exact ⟨c, by rw [e, flatten_get rows hs _ _ hm, h1]; exact h4, h5⟩

/-- Cells and temps told otherwise. -/
theorem Gst.cells {G : Nat → Option (List V)} {st st' : St} (hn : st'.n = st.n) (hu : st'.u = st.u) (ht : ∀ i, Wk st'.b st'.u (st.t i) (st'.t i))
    (hb : ∀ b, (st.b b = none ∧ st'.b b = none) ∨ ∃ k k', st.b b = some k ∧ st'.b b = some k' ∧ k'.size = k.size ∧ k'.excl = k.excl ∧ RowsRel (fun c c' => Wk st'.b st'.u c c' ∧ (c'.isOwn = true → c' = c ∨ c = .nilsl)) k.rows k'.rows) : Gst G st st' := fun γ tmps w h => by
  have bl : BsLe γ st.b st.u γ st'.b st'.u := by
    refine ⟨fun b x => by rw [hu]; exact x, fun b _ hbn => ?_, fun b k hk => ⟨by rw [hu]; exact h.u b k hk, ?_⟩⟩
    · rcases hb b with ⟨_, h2⟩ | ⟨k, k', h1, _⟩
      · exact h2
      · rw [h1] at hbn; simp at hbn
    · rcases hb b with ⟨h1, _⟩ | ⟨k0, k', h1, h2, h3, _, h5⟩
      · rw [h1] at hk; simp at hk
      · rw [h1] at hk; simp only [Option.some.injEq] at hk; subst hk
        exact .inr ⟨k', h2, h3, by rw [h5.1]; exact Nat.le_refl _, rfl⟩
  refine ⟨γ, ⟨by rw [hn]; exact h.n, fun i => ht i _ _ _ ((h.t i).mono (.refl _ _) bl), fun b k hk => ?_, fun b k hk => ?_, h.g, h.o⟩, .refl γ w, bl.pin⟩
  · rcases hb b with ⟨_, h2⟩ | ⟨k0, k', h1, h2, h3, h4, h5⟩
    · rw [h2] at hk; simp at hk
    rw [h2] at hk; simp only [Option.some.injEq] at hk; subst hk
    rcases h.b b k0 h1 with ⟨z0, z1⟩ | ⟨B, o, cs, e, a1, a2, a3, a4, a5, a6, a7, a8⟩
    · refine .inl ⟨z0, List.length_eq_zero_iff.1 ?_⟩
      rw [h5.1, z1]; rfl
    refine .inr ⟨B, o, cs, e, a1, a2, a3, by rw [h3]; exact h5.sizes a4, by rw [h3, h5.1]; exact a5, fun i c' hc => ?_, fun hx => a7 (by rw [← h4]; exact hx), by rw [h3, h5.1]; exact a8⟩
    obtain ⟨c, c1, c2, c3⟩ := h5.flat a4 hc
    obtain ⟨v, v1, v2, v3, v4⟩ := a6 i c c1
    refine ⟨v, v1, c2 _ _ _ (v2.mono (.refl _ _) bl), v3, ?_⟩
    rw [h3]
    cases ho : c'.isOwn with
    | false => exact .of_not_own ho
    | true =>
      rcases c3 ho with e | e
      · rw [e]; exact v4
      · subst e
        have := v2.nilsl_inv; subst this
        unfold Right; cases c' <;> simp
  · rw [hu]
    rcases hb b with ⟨_, h2⟩ | ⟨k0, k', h1, h2, _⟩
    · rw [h2] at hk; simp at hk
    · exact h.u b k0 h1

theorem Gst.addB {G : Nat → Option (List V)} {st : St} {d : Nat} (size : Nat) (hu : st.u d = false) : Gst G st (st.setB d ⟨size, true, []⟩) := fun γ tmps w hs => by
  obtain ⟨γ', h1, h2, h3⟩ := hs.virt (size := size) hu
  exact ⟨γ', h1, h2, h3.pin⟩

/-- A block's name changed. -/
def renF (a b : Nat) : Nat → Nat := fun c => if c = a then b else c

def St.renm (st : St) (a b : Nat) : St where
  n := st.n
  t := fun i => renV (renF a b) (st.t i)
  b := fun c => if c = b then (st.b a).map (Blk.ren (renF a b)) else if c = a then none else (st.b c).map (Blk.ren (renF a b))
  u := fun c => if c = b then true else st.u c

theorem Gst.renm {G : Nat → Option (List V)} {st : St} {a b : Nat} (hab : a ≠ b) (hub : st.u b = false) : Gst G st (st.renm a b) := fun γ tmps w h => by
  let f := renF a b
  let γ' : Gh := { loc := fun c => if c = b then γ.loc a else γ.loc c, own := fun B => match γ.own B with
    | some (.blk x) => some (.blk (f x))
    | some (.nest x i j) => some (.nest (f x) i j)
    | none => none, lim := γ.lim }
  have hbn : st.b b = none := by
    cases hb : st.b b with
    | none => rfl
    | some k => rw [h.u b k hb] at hub; simp at hub
  have g : Grow γ w γ' w := ⟨rfl, rfl, rfl, Nat.le_refl _, fun _ _ _ _ h => h, fun _ _ => Nat.le_refl _, fun B _ ho => ⟨rfl, by simp only [γ', ho], rfl⟩, fun _ cs _ _ h => ⟨cs, h, rfl⟩⟩
  have tr : ∀ c, Tr γ st.b st.u γ' (st.renm a b).b (st.renm a b).u f c := fun c => by
    refine ⟨fun k hk => ?_, fun hn hu => ?_⟩
    · have hcb : c ≠ b := fun e => by subst e; rw [hbn] at hk; simp at hk
      by_cases hca : c = a
      · subst hca
        refine ⟨k.ren f, by simp [St.renm, f, renF, hk], rfl, by simp [Blk.ren], by simp [γ', f, renF]⟩
      · refine ⟨k.ren f, by simp [St.renm, f, renF, hca, hcb, hk], rfl, by simp [Blk.ren], by simp [γ', f, renF, hca, hcb]⟩
    · by_cases hca : c = a
      · subst hca
        simp [St.renm, f, renF, hn]
      · by_cases hcb : c = b
        · subst hcb; rw [hub] at hu; simp at hu
        · simp [St.renm, f, renF, hca, hcb, hn, hu]
  have tmp : ∀ i, Rep γ' w (st.renm a b).b (st.renm a b).u (renV f (st.t i)) (tmps.getD i undef) := fun i =>
    Rep.ren (γ1 := γ) (γ2 := γ') (w := w) (w' := w) (bs1 := st.b) (u1 := st.u) (s := f) (fun B o v h1 h2 => ⟨h1, h2⟩) (fun _ _ h => h) (h.t i) (fun b _ => tr b)
  refine ⟨γ', ⟨h.n, tmp, fun c k hk => ?_, fun c k hk => ?_, h.g.grow g, fun B x hx => ?_⟩, g, fun c hc => ?_⟩
  · have ob : ∀ x B, γ.own B = some (.blk x) → γ'.own B = some (.blk (f x)) := fun x B hB => by simp only [γ', hB]
    have on : ∀ x B i j, γ.own B = some (.nest x i j) → γ'.own B = some (.nest (f x) i j) := fun x B i j hB => by simp only [γ', hB]
    simp only [St.renm] at hk
    by_cases hcb : c = b
    · subst hcb
      rw [if_pos rfl] at hk
      obtain ⟨k0, h0, rfl⟩ := Option.map_eq_some_iff.1 hk
      have := (h.b a k0 h0).ren (γ2 := γ') (bs2 := (st.renm a c).b) (u2 := (st.renm a c).u) (s := f) (by simp [γ', f, renF]) (fun _ => rfl) (fun B hB => ob a B hB) (fun B i j hB => on a B i j hB) (fun b' _ => tr b')
      have e : f a = c := by simp [f, renF]
      rw [e] at this
      exact this
    · rw [if_neg hcb] at hk
      by_cases hca : c = a
      · rw [if_pos hca] at hk; simp at hk
      · rw [if_neg hca] at hk
        obtain ⟨k0, h0, rfl⟩ := Option.map_eq_some_iff.1 hk
        have e : f c = c := by simp [f, renF, hca]
        have := (h.b c k0 h0).ren (γ2 := γ') (bs2 := (st.renm a b).b) (u2 := (st.renm a b).u) (s := f) (by rw [e]; simp [γ', hcb]) (fun _ => rfl) (fun B hB => ob c B hB) (fun B i j hB => on c B i j hB) (fun b' _ => tr b')
        rw [e] at this
        exact this
  · simp only [St.renm] at hk ⊢
    split
    · rfl
    · rename_i hcb
      rw [if_neg hcb] at hk
      split at hk
      · simp at hk
      · obtain ⟨k0, h0, _⟩ := Option.map_eq_some_iff.1 hk
        exact h.u c k0 h0
  · simp only [γ'] at hx
    cases ho : γ.own B with
    | none => rw [ho] at hx; simp at hx
    | some y => exact h.o B y ho
  · refine ⟨fun hu => ?_, fun hu hn => ?_, fun k hk => ?_⟩
    · simp only [St.renm]; split; rfl; exact hu
    · have hcb : c ≠ b := fun e => by subst e; rw [hub] at hu; simp at hu
      simp only [St.renm, if_neg hcb]
      split
      · rfl
      · rw [hn]; rfl
    · have hcb : c ≠ b := fun e => by subst e; rw [hbn] at hk; simp at hk
      refine ⟨by simp only [St.renm, if_neg hcb]; exact h.u c k hk, ?_⟩
      by_cases hca : c = a
      · exact .inl (by simp [St.renm, hca, hab])
      · exact .inr ⟨k.ren f, by simp [St.renm, hcb, hca, hk, f], rfl, by simp [Blk.ren], by simp [γ', hcb]⟩

/-- A block given up; its slices are told as data, wherever they stand. -/
def St.shr (st : St) (b : Nat) (g : V → V) : St where
  n := st.n
  t := fun i => g (st.t i)
  b := fun c => if c = b then none else (st.b c).map fun k => { k with rows := k.rows.map (·.map g) }
  u := fun c => if c = b then true else st.u c

def ShGood (st : St) (b : Nat) (k : Blk) (g : V → V) (c : V) : Prop :=
  ∀ (γ γ' : Gh) (w : World) (bs' : Nat → Option Blk) (u' : Nat → Bool), bs' b = none → u' b = true → (∀ c v, Rep γ w st.b st.u c v → Rep γ' w bs' u' (shV b k c) v) → ∀ v, Rep γ w st.b st.u c v → Rep γ' w bs' u' (g c) v

theorem Gst.shr {G : Nat → Option (List V)} {st : St} {b : Nat} {k : Blk} (hb : st.b b = some k) (hd : ∀ r, r ∈ k.rows → ∀ c, c ∈ r → dcell c = true) {g : V → V}
    (hgt : ∀ i, ShGood st b k g (st.t i)) (hgb : ∀ x q, x ≠ b → st.b x = some q → ∀ r, r ∈ q.rows → ∀ c, c ∈ r → ShGood st b k g c) (hown : ∀ c, (g c).isOwn = true → g c = c) : Gst G st (st.shr b g) := fun γ tmps w h => by
  obtain ⟨γ', h1, h2, h3, hloc, h4⟩ := h.shareL hb hd
  have bl : BsLe γ' (st.delB b).b (st.delB b).u γ' (st.shr b g).b (st.shr b g).u := by
    refine ⟨fun c hc => hc, fun c hc hn => ?_, fun c q hq => ⟨h1.u c q hq, ?_⟩⟩
    · simp only [St.delB, St.shr] at hn ⊢
      split
      · rfl
      · rename_i hcb; rw [if_neg hcb] at hn; rw [hn]; rfl
    · simp only [St.delB] at hq
      split at hq
      · simp at hq
      · rename_i hcb
        exact .inr ⟨{ q with rows := q.rows.map (·.map g) }, by simp [St.shr, hcb, hq], rfl, by simp, rfl⟩
  have map : ∀ c v, Rep γ w st.b st.u c v → Rep γ' w (st.shr b g).b (st.shr b g).u (shV b k c) v := fun c v hr => (h4 c v hr).mono (.refl _ _) bl
  have key : ∀ c v, ShGood st b k g c → Rep γ w st.b st.u c v → Rep γ' w (st.shr b g).b (st.shr b g).u (g c) v := fun c v hc hr =>
    hc γ γ' w _ _ (by simp [St.shr]) (by simp [St.shr]) map v hr
  refine ⟨γ', ⟨h.n, fun i => key _ _ (hgt i) (h.t i), fun c q hq => ?_, fun c q hq => ?_, h1.g, h1.o⟩, h2, h3.trans bl.pin⟩
  · simp only [St.shr] at hq
    split at hq
    · simp at hq
    rename_i hcb
    obtain ⟨q0, hq0, rfl⟩ := Option.map_eq_some_iff.1 hq
    have hq1 : (st.delB b).b c = some q0 := by simp [St.delB, hcb, hq0]
    rcases h1.b c q0 hq1 with ⟨z0, z1⟩ | ⟨B, o, cs, e, a1, a2, a3, a4, a5, a6, a7, a8⟩
    · exact .inl ⟨z0, by simp [z1]⟩
    have hsz : ∀ r, r ∈ q0.rows.map (·.map g) → r.length = q0.size := fun r hr => by
      obtain ⟨r0, hr0, rfl⟩ := List.mem_map.1 hr
      simpa using a4 r0 hr0
    refine .inr ⟨B, o, cs, e, a1, a2, a3, hsz, by simpa using a5, fun i c' hc' => ?_, a7, by simpa using a8⟩
    have hfl : (q0.rows.map (·.map g)).flatten = q0.rows.flatten.map g := by rw [List.map_flatten]
    simp only at hc'
    rw [hfl, List.getElem?_map, Option.map_eq_some_iff] at hc'
    obtain ⟨c0, k1, rfl⟩ := hc'
    obtain ⟨v, v1, v2, v3, v4⟩ := a6 i c0 k1
    -- the same value, read in the state ahead
    have old : Rep γ w st.b st.u c0 v := by
      rcases h.b c q0 hq0 with ⟨z0, z1⟩ | ⟨B2, o2, cs2, e2, b1, b2, b3, _, _, b6, _⟩
      · rw [z1] at k1; simp at k1
      · obtain ⟨x, x1, x2, _⟩ := b6 i c0 k1
        rw [hloc, b1] at a1
        simp only [Option.some.injEq, Prod.mk.injEq] at a1
        obtain ⟨rfl, rfl⟩ := a1
        rw [a3] at b3
        simp only [Option.some.injEq, Obj.cells.injEq] at b3
        obtain ⟨rfl, rfl, _⟩ := b3
        rw [v1] at x1
        simp only [Option.some.injEq] at x1
        subst x1; exact x2
    obtain ⟨r0, hr0, hc0⟩ := List.mem_flatten.1 (List.mem_of_getElem? k1)
    refine ⟨v, v1, key c0 v (hgb c q0 hcb hq0 r0 hr0 c0 hc0) old, v3, ?_⟩
    show Right γ' w (.nest c (i / q0.size) (i % q0.size)) (g c0) v
    cases ho : (g c0).isOwn with
    | false => exact .of_not_own ho
    | true => rw [hown c0 ho]; exact v4
  · simp only [St.shr] at hq ⊢
    split
    · rfl
    · rename_i hcb
      rw [if_neg hcb] at hq
      obtain ⟨q0, hq0, _⟩ := Option.map_eq_some_iff.1 hq
      exact h.u c q0 hq0

/-- A block's beginning given up: what it holds is told from a later row on. -/
def cutV (b k : Nat) : Nat → V → V
  | 0, _ => .undef
  | n + 1, c => match c with
    | .ref b' off len => match b' == b with
      | true => match Nat.ble k off with
        | true => .ref b' (off - k) len
        | false => .undef
      | false => .ref b' off len
    | .ptr b' i o => match b' == b with
      | true => match Nat.ble k i with
        | true => .ptr b' (i - k) o
        | false => .undef
      | false => .ptr b' i o
    | .fn f x y => .fn f (x.map (cutV b k n)) (y.map (cutV b k n))
    | .agg l => .agg (l.map (cutV b k n))
    | .tup l => .tup (l.map (cutV b k n))
    | c => c

theorem cutV_rep {γ γ' : Gh} {w : World} {bs bs' : Nat → Option Blk} {u u' : Nat → Bool} {b k : Nat} {q q' : Blk} (hb : bs b = some q) (hb' : bs' b = some q') (hz : q'.size = q.size) (hl : q'.rows.length = q.rows.length - k)
    (hlim : γ'.lim = γ.lim) (hloc : ∀ B o, γ.loc b = some (B, o) → γ'.loc b = some (B, o + k * q.size))
    (hoth : ∀ c, c ≠ b → (bs c = none ∧ bs' c = none ∧ (u c = true → u' c = true)) ∨ ∃ x x', bs c = some x ∧ bs' c = some x' ∧ x'.size = x.size ∧ x'.rows.length = x.rows.length ∧ γ'.loc c = γ.loc c) :
    ∀ (n : Nat) (c : V) (v : Value), Rep γ w bs u c v → Rep γ' w bs' u' (cutV b k n c) v
  | 0, _, v, _ => .undef v
  | n + 1, c, v, h => by
    have ih := cutV_rep (w := w) (u := u) (u' := u') hb hb' hz hl hlim hloc hoth n
    have dat : ∀ {c : V}, RepD γ.lim w c v → Rep γ' w bs' u' c v := fun h => .data (by rw [hlim]; exact h)
    cases c with
    | ref b' off len =>
      simp only [cutV]
      by_cases e : b' = b
      · subst e
        simp only [beq_self_eq_true]
        cases hk : Nat.ble k off with
        | false => exact .undef v
        | true =>
          have hk' : k ≤ off := Nat.le_of_ble_eq_true hk
          simp only
          cases h with
          | data h => cases h
          | ref _ _ _ B o cap x a1 a2 a3 a4 a5 =>
            rw [hb] at a1; simp only [Option.some.injEq] at a1; subst a1
            have e1 : o + off * q.size = o + k * q.size + (off - k) * q'.size := by
              rw [hz, Nat.add_assoc, ← Nat.add_mul, show k + (off - k) = off by omega]
            rw [e1]
            refine .ref b' (off - k) len B (o + k * q.size) cap q' hb' (hloc _ _ a2) (by rw [hl]; omega) a4 ?_
            have e2 : o + k * q.size + (off - k + cap) * q'.size = o + (off + cap) * q.size := by
              rw [hz, Nat.add_assoc, ← Nat.add_mul, show k + (off - k + cap) = off + cap by omega]
            rw [e2]; exact a5
          | refE _ _ B x a1 a2 =>
            rw [hb] at a1; simp only [Option.some.injEq] at a1; subst a1
            exact .refE b' (off - k) B q' hb' (by rw [hl]; omega)
          | refN _ _ x a1 a2 =>
            rw [hb] at a1; simp only [Option.some.injEq] at a1; subst a1
            exact .refN b' (off - k) q' hb' (by rw [hl]; omega)
          | deadRef _ _ _ _ a1 a2 a3 => rw [hb] at a1; simp at a1
      · have : (b' == b) = false := by simpa using e
        rw [this]
        simp only
        rcases hoth b' e with ⟨n1, n2, n3⟩ | ⟨x, x', n1, n2, n3, n4, n5⟩
        · cases h with
          | data h => cases h
          | ref _ _ _ B o cap y a1 => rw [n1] at a1; simp at a1
          | refE _ _ B y a1 => rw [n1] at a1; simp at a1
          | refN _ _ y a1 => rw [n1] at a1; simp at a1
          | deadRef _ _ _ _ a1 a2 a3 => exact .deadRef b' off len v n2 (n3 a2) a3
        · cases h with
          | data h => cases h
          | ref _ _ _ B o cap y a1 a2 a3 a4 a5 =>
            rw [n1] at a1; simp only [Option.some.injEq] at a1; subst a1
            rw [← n3] at a5 ⊢
            exact .ref b' off len B o cap x' n2 (by rw [n5]; exact a2) (by rw [n4]; exact a3) a4 a5
          | refE _ _ B y a1 a2 =>
            rw [n1] at a1; simp only [Option.some.injEq] at a1; subst a1
            exact .refE b' off B x' n2 (by rw [n4]; exact a2)
          | refN _ _ y a1 a2 =>
            rw [n1] at a1; simp only [Option.some.injEq] at a1; subst a1
            exact .refN b' off x' n2 (by rw [n4]; exact a2)
          | deadRef _ _ _ _ a1 a2 a3 => rw [n1] at a1; simp at a1
    | ptr b' i o' =>
      simp only [cutV]
      by_cases e : b' = b
      · subst e
        simp only [beq_self_eq_true]
        cases hk : Nat.ble k i with
        | false => exact .undef v
        | true =>
          have hk' : k ≤ i := Nat.le_of_ble_eq_true hk
          simp only
          cases h with
          | data h => cases h
          | ptr _ _ _ B o x a1 a2 =>
            rw [hb] at a1; simp only [Option.some.injEq] at a1; subst a1
            have e1 : o + (i * q.size + o') = o + k * q.size + ((i - k) * q'.size + o') := by
              have : i * q.size = k * q.size + (i - k) * q.size := by rw [← Nat.add_mul, show k + (i - k) = i by omega]
              rw [hz]; omega
            rw [e1]
            exact .ptr b' (i - k) o' B (o + k * q.size) q' hb' (hloc _ _ a2)
          | deadPtr _ _ _ _ a1 a2 a3 => rw [hb] at a1; simp at a1
      · have : (b' == b) = false := by simpa using e
        rw [this]
        simp only
        rcases hoth b' e with ⟨n1, n2, n3⟩ | ⟨x, x', n1, n2, n3, n4, n5⟩
        · cases h with
          | data h => cases h
          | ptr _ _ _ B o y a1 => rw [n1] at a1; simp at a1
          | deadPtr _ _ _ _ a1 a2 a3 => exact .deadPtr b' i o' v n2 (n3 a2) a3
        · cases h with
          | data h => cases h
          | ptr _ _ _ B o y a1 a2 =>
            rw [n1] at a1; simp only [Option.some.injEq] at a1; subst a1
            rw [← n3]
            exact .ptr b' i o' B o x' n2 (by rw [n5]; exact a2)
          | deadPtr _ _ _ _ a1 a2 a3 => rw [n1] at a1; simp at a1
    | fn f x y =>
      simp only [cutV]
      obtain ⟨fs, cs, hv, h1, h2, h3, h4⟩ := h.fn_inv
      subst hv
      refine .fn f _ _ fs cs (by simpa using h1) (by simpa using h2) (fun i c v hc hv => ?_) (fun i c v hc hv => ?_)
      · rw [List.getElem?_map, Option.map_eq_some_iff] at hc
        obtain ⟨c0, k1, rfl⟩ := hc
        exact ih c0 v (h3 i c0 v k1 hv)
      · rw [List.getElem?_map, Option.map_eq_some_iff] at hc
        obtain ⟨c0, k1, rfl⟩ := hc
        exact ih c0 v (h4 i c0 v k1 hv)
    | agg l =>
      simp only [cutV]
      obtain ⟨vs, rfl, h1, h2⟩ := h.agg_inv
      refine .agg _ vs (by simpa using h1) fun i c v hc hv => ?_
      rw [List.getElem?_map, Option.map_eq_some_iff] at hc
      obtain ⟨c0, k1, rfl⟩ := hc
      exact ih c0 v (h2 i c0 v k1 hv)
    | tup l =>
      simp only [cutV]
      obtain ⟨vs, rfl, h1, h2⟩ := h.tup_inv
      refine .tup _ vs (by simpa using h1) fun i c v hc hv => ?_
      rw [List.getElem?_map, Option.map_eq_some_iff] at hc
      obtain ⟨c0, k1, rfl⟩ := hc
      exact ih c0 v (h2 i c0 v k1 hv)
    | undef => exact .undef v
    | _ =>
      simp only [cutV]
      cases h with
      | data h => exact dat h

theorem cutV_dcell {b k n : Nat} {c : V} (h : dcell c = true) : cutV b k (n + 1) c = c := by
  cases c <;> simp [dcell, cutV] at h ⊢
  obtain ⟨h1, h2⟩ := h
  subst h1; subst h2; simp

def St.cut (st : St) (b k : Nat) (q : Blk) (g : V → V) : St where
  n := st.n
  t := fun i => g (st.t i)
  b := fun c => if c = b then some { q with rows := q.rows.drop k } else (st.b c).map fun x => { x with rows := x.rows.map (·.map g) }
  u := st.u

theorem Gst.cut {G : Nat → Option (List V)} {st : St} {b k n : Nat} {q : Blk} (hb : st.b b = some q) (hk : k ≤ q.rows.length) (hlow : b < 1000000) (hown : ∀ r, r ∈ q.rows → ∀ c, c ∈ r → dcell c = true ∧ c.isOwn = false) {g : V → V}
    (hg : ∀ i, g (st.t i) = cutV b k n (st.t i)) (hgb : ∀ x p, x ≠ b → st.b x = some p → ∀ r, r ∈ p.rows → ∀ c, c ∈ r → (g c = cutV b k n c ∨ (g c = c ∧ dcell c = true))) (hgo : ∀ c, (g c).isOwn = true → g c = c) : Gst G st (st.cut b k q g) := fun γ tmps w h => by
  let γ' : Gh := { loc := fun c => if c = b then (γ.loc b).map fun p => (p.1, p.2 + k * q.size) else γ.loc c, own := γ.own, lim := γ.lim }
  have gr : Grow γ w γ' w := ⟨rfl, rfl, rfl, Nat.le_refl _, fun _ _ _ _ h => h, fun _ _ => Nat.le_refl _, fun _ _ h => ⟨rfl, h, rfl⟩, fun _ cs _ _ h => ⟨cs, h, rfl⟩⟩
  have key : ∀ (n : Nat) (c : V) (v : Value), Rep γ w st.b st.u c v → Rep γ' w (st.cut b k q g).b (st.cut b k q g).u (cutV b k n c) v := fun n c v hr =>
    cutV_rep (γ := γ) (γ' := γ') (w := w) (u := st.u) (u' := (st.cut b k q g).u) (q' := { q with rows := q.rows.drop k }) hb (by simp [St.cut]) rfl (by simp) rfl (fun B o ho => by simp [γ', ho]) (fun c hc => by
      cases hs : st.b c with
      | none => exact .inl ⟨rfl, by simp [St.cut, hc, hs], fun h => h⟩
      | some x => exact .inr ⟨x, { x with rows := x.rows.map (·.map g) }, rfl, by simp [St.cut, hc, hs], rfl, by simp, by simp [γ', hc]⟩) n c v hr
  have dkey : ∀ (c : V) (v : Value), dcell c = true → Rep γ w st.b st.u c v → Rep γ' w (st.cut b k q g).b (st.cut b k q g).u c v := fun c v hd hr => by
    have := key 1 c v hr
    rw [cutV_dcell hd] at this; exact this
  refine ⟨γ', ⟨h.n, fun i => ?_, fun c p hp => ?_, fun c p hp => ?_, h.g.grow gr, h.o⟩, gr, fun c hc => ?_⟩
  · show Rep γ' w _ _ (g (st.t i)) _
    rw [hg]; exact key _ _ _ (h.t i)
  · by_cases hcb : c = b
    · subst hcb
      have hp' : p = { q with rows := q.rows.drop k } := by simpa [St.cut] using hp.symm
      subst hp'
      rcases h.b c q hb with ⟨z0, z1⟩ | ⟨B, o, cs, e, a1, a2, a3, a4, a5, a6, a7, a8⟩
      · exact .inl ⟨by simp [γ', z0], by simp [z1]⟩
      have e5 : k * q.size + (q.rows.length - k) * q.size = q.rows.length * q.size := by rw [← Nat.add_mul, show k + (q.rows.length - k) = q.rows.length by omega]
      refine .inr ⟨B, o + k * q.size, cs, e, by simp [γ', a1], a2, a3, fun r hr => a4 r (List.mem_of_mem_drop hr), ?_, fun i d hd => ?_, a7, ?_⟩
      · simp only [List.length_drop]; omega
      · have hfl : q.rows.flatten[k * q.size + i]? = some d := by
          have e1 : q.rows.flatten = (q.rows.take k).flatten ++ (q.rows.drop k).flatten := by rw [← List.flatten_append, List.take_append_drop]
          have e2 : (q.rows.take k).flatten.length = k * q.size := by
            rw [List.length_flatten]
            have : (q.rows.take k).map List.length = List.replicate k q.size := by
              rw [List.eq_replicate_iff]
              refine ⟨by simp; omega, fun x hx => ?_⟩
              obtain ⟨r, hr, rfl⟩ := List.mem_map.1 hx
              exact a4 r (List.mem_of_mem_take hr)
            rw [this]; simp
          rw [e1, List.getElem?_append_right (by omega), e2, show k * q.size + i - k * q.size = i by omega]
          exact hd
        obtain ⟨v, v1, v2, v3, v4⟩ := a6 _ d hfl
        obtain ⟨r, hr1, hr2⟩ := List.mem_flatten.1 (List.mem_of_getElem? hfl)
        obtain ⟨d1, d2⟩ := hown r hr1 d hr2
        exact ⟨v, by rw [Nat.add_assoc]; exact v1, dkey d v d1 v2, v3, .of_not_own d2⟩
      · show γ.lim B ≤ _
        simp only [List.length_drop]; omega
    · have hp' : (st.b c).map (fun x => ({ x with rows := x.rows.map (·.map g) } : Blk)) = some p := by simpa [St.cut, hcb] using hp
      obtain ⟨x, hx, rfl⟩ := Option.map_eq_some_iff.1 hp'
      rcases h.b c x hx with ⟨z0, z1⟩ | ⟨B, o, cs, e, a1, a2, a3, a4, a5, a6, a7, a8⟩
      · exact .inl ⟨by simp [γ', hcb, z0], by simp [z1]⟩
      refine .inr ⟨B, o, cs, e, by simp [γ', hcb, a1], a2, a3, fun r hr => ?_, by simpa using a5, fun i d hd => ?_, a7, by simpa using a8⟩
      · obtain ⟨r0, hr0, rfl⟩ := List.mem_map.1 hr
        simpa using a4 r0 hr0
      · have hfl : (x.rows.map (·.map g)).flatten = x.rows.flatten.map g := by rw [List.map_flatten]
        simp only at hd
        rw [hfl, List.getElem?_map, Option.map_eq_some_iff] at hd
        obtain ⟨d0, k1, rfl⟩ := hd
        obtain ⟨v, v1, v2, v3, v4⟩ := a6 i d0 k1
        obtain ⟨r, hr1, hr2⟩ := List.mem_flatten.1 (List.mem_of_getElem? k1)
        have hrep : Rep γ' w (st.cut b k q g).b (st.cut b k q g).u (g d0) v := by
          rcases hgb c x hcb hx r hr1 d0 hr2 with e | ⟨e, e'⟩
          · rw [e]; exact key _ _ _ v2
          · rw [e]; exact dkey _ _ e' v2
        refine ⟨v, v1, hrep, v3, ?_⟩
        show Right γ' w (.nest c (i / x.size) (i % x.size)) (g d0) v
        cases ho : (g d0).isOwn with
        | false => exact .of_not_own ho
        | true => rw [hgo d0 ho]; exact v4
  · by_cases hcb : c = b
    · subst hcb; exact h.u c q hb
    · have hp' : (st.b c).map (fun x => ({ x with rows := x.rows.map (·.map g) } : Blk)) = some p := by simpa [St.cut, hcb] using hp
      obtain ⟨x, hx, rfl⟩ := Option.map_eq_some_iff.1 hp'
      exact h.u c x hx
  · have hcb : c ≠ b := fun e => by omega
    refine ⟨fun h => h, fun hu hn => ?_, fun x hx => ⟨h.u c x hx, .inr ⟨{ x with rows := x.rows.map (·.map g) }, by simp [St.cut, hcb, hx], rfl, by simp, by simp [γ', hcb]⟩⟩⟩
    simp [St.cut, hcb, hn]

end Go.EV

namespace Go.EV
open Go

/-- How a Lean type lies in rows: as stored, and as data (nested rights struck). -/
structure Ty (α : Type) where
  c : α → List V
  d : α → List V
  cd : ∀ x, (c x).all dcell = true
  dd : ∀ x, (d x).all dcell = true
  vw : ∀ look x, mapO (fun v => onlyCell (viewV look 1 v)) (c x) = some (d x)
  st : ∀ x, (d x).map V.strip = d x

def Ty.flat {α : Type} (t : Ty α) (vw : ∀ look x, mapO (fun v => onlyCell (viewV look 1 v)) (t.d x) = some (t.d x)) : Ty α := ⟨t.d, t.d, t.dd, t.dd, vw, t.st⟩

def DataRows (rows : List (List V)) : Prop := ∀ r, r ∈ rows → ∀ c, c ∈ r → dcell c = true

theorem Ty.data {α : Type} (t : Ty α) (l : List α) : DataRows (l.map t.c) := fun r hr c hc => by
  obtain ⟨x, _, rfl⟩ := List.mem_map.1 hr
  exact List.all_eq_true.1 (t.cd x) c hc

theorem Ty.dataD {α : Type} (t : Ty α) (l : List α) : DataRows (l.map t.d) := fun r hr c hc => by
  obtain ⟨x, _, rfl⟩ := List.mem_map.1 hr
  exact List.all_eq_true.1 (t.dd x) c hc

/-- A contract as a thing. -/
structure Spec (P : Program) (G : Nat → Option (List V)) (α : Type) where
  f : FuncId
  args : List V
  ins : List (Nat × Blk)
  o : Option α
  res : α → V
  outs : α → List (Nat × Blk)
  dt : List Nat
  dat : ∀ r p, p ∈ outs r → p.1 ∈ dt → DataRows p.2.rows
  ok : ∀ r, o = some r → CallC P G f args (ofL ins) (res r) (ofL (outs r))

/-- A state to come to: how it is left, temps, blocks; the blocks in the second list hold data. -/
structure Ext where
  ex : Exit
  ts : List (Nat × V)
  bs : List (Nat × Blk)
  dt : List Nat
  dat : ∀ p, p ∈ bs → p.1 ∈ dt → DataRows p.2.rows

def Ext.lit (ex : Exit) (ts : List (Nat × V)) (bs : List (Nat × Blk)) : Ext := ⟨ex, ts, bs, [], fun _ _ h => by simp at h⟩

structure BT where
  id : Nat
  k : Blk
  dat : DataRows k.rows

def BT.of {α : Type} (id : Nat) (t : Ty α) (size : Nat) (l : List α) (excl : Bool := true) : BT := ⟨id, ⟨size, excl, l.map t.c⟩, t.data l⟩

theorem holed_dat {α : Type} (t : Ty α) (l : List α) (j : Nat) (hole : List V) (hh : hole.all dcell = true) : DataRows ((l.map t.c).set j hole) := fun r hr c hc => by
  rcases List.mem_or_eq_of_mem_set hr with hr | rfl
  · exact t.data l r hr c hc
  · exact List.all_eq_true.1 hh c hc

def BT.hole {α : Type} (id : Nat) (t : Ty α) (size : Nat) (l : List α) (j : Nat) (hole : List V) (hh : hole.all dcell = true) (excl : Bool := true) : BT := ⟨id, ⟨size, excl, (l.map t.c).set j hole⟩, holed_dat t l j hole hh⟩

theorem bts_dat (tb : List BT) {p : Nat × Blk} (h : p ∈ tb.map fun x => (x.id, x.k)) : DataRows p.2.rows := by
  obtain ⟨x, _, rfl⟩ := List.mem_map.1 h
  exact x.dat

def Ext.of (ex : Exit) (ts : List (Nat × V)) (bs : List (Nat × Blk)) (tb : List BT) (h : (bs.all fun p => !(tb.any fun x => x.id == p.1)) = true) : Ext :=
  ⟨ex, ts, bs ++ tb.map fun x => (x.id, x.k), tb.map (·.id), fun p hp hd => by
    rcases List.mem_append.1 hp with hp | hp
    · obtain ⟨x, hx, e⟩ := List.mem_map.1 hd
      have := List.all_eq_true.1 h p hp
      simp only [Bool.not_eq_true', List.any_eq_false, beq_iff_eq] at this
      exact absurd e (this x hx)
    · exact bts_dat tb hp⟩

/-- Writes, told otherwise. -/
structure ReW where
  a : List Wr
  b : List Wr
  h : a = b
  dt : List Nat
  dat : ∀ i k, Wr.b i (some k) ∈ b → i ∈ dt → DataRows k.rows

/-- A slice of a block that holds data, seen as data. -/
structure VwW : Type 1 where
  b : Nat
  α : Type
  ty : Ty α
  l : List α

inductive GhW : Type 1 where
  | virt (d t size : Nat)
  | virtC (d b j size : Nat)
  | ren (a b : Nat)
  | share (vs : List VwW)
  | drop (bs : List Nat)
  | nest (d b i j : Nat)
  | len (b m : Nat) (ns : List Nat) (h : ∀ n, n ∈ ns → n = m)

inductive T (P : Program) (G : Nat → Option (List V)) : Type → Type 1 where
  | done {ρ : Type} (r : ρ) : T P G ρ
  | fail {ρ : Type} : T P G ρ
  | br {ρ : Type} (a : Nat) (c : Bool) (x y : T P G ρ) : T P G ρ
  | tt {ρ : Type} (k : T P G ρ) : T P G ρ
  | ff {ρ : Type} (k : T P G ρ) : T P G ρ
  | chk {ρ : Type} (a : Nat) (c : Bool) (k : T P G ρ) : T P G ρ
  | re {ρ : Type} (a : Nat) (w : ReW) (k : T P G ρ) : T P G ρ
  | row {ρ α : Type} (a : Nat) (ty : Ty α) (l : List α) (j : Nat) (c : Bool) (k : α → T P G ρ) : T P G ρ
  | rowt {ρ α : Type} (a : Nat) (ty : Ty α) (l : List α) (j col : Nat) (k : α → T P G ρ) : T P G ρ
  | hrow {ρ α : Type} (a : Nat) (ty : Ty α) (l : List α) (hole : List V) (j : Nat) (k : T P G ρ) : T P G ρ
  | rowg {ρ α β : Type} (a b d : Nat) (ty : Ty α) (l : List α) (j col z : Nat) (ty2 : Ty β) (o : α → List β) (hc : ∀ x, (ty.c x)[col]? = some (.sl true z ((o x).map ty2.c))) (hs : ∀ y, ty2.c y = ty2.d y) (k : α → T P G ρ) : T P G ρ
  | cutg {ρ α : Type} (a b : Nat) (ty : Ty α) (l : List α) (n : Nat) (hs : ∀ y, ty.c y = ty.d y) (k : T P G ρ) : T P G ρ
  | nst {ρ α β : Type} (a : Nat) (ty : Ty α) (l : List α) (hole : List V) (j col : Nat) (y : α) (ty2 : Ty β) (o : List β) (cut : Option Nat) (k : T P G ρ) : T P G ρ
  | appn {ρ α β : Type} (a : Nat) (ty : Ty α) (l : List α) (y : α) (col d2 : Nat) (ty2 : Ty β) (o : List β) (bytes : Nat) (k : T P G ρ) : T P G ρ
  | app {ρ α : Type} (a : Nat) (ty : Ty α) (l x : List α) (bytes : Nat) (fl : Bool) (h : fl = true → ∀ y, ty.c y = ty.d y) (k : T P G ρ) : T P G ρ
  | call {ρ α : Type} (a : Nat) (s : Spec P G α) (Li Lo : List (Nat × Nat)) (k : α → T P G ρ) : T P G ρ
  | call2 {ρ α β : Type} (a : Nat) (s : Spec P G (α ⊕ β)) (Li Lo : List (Nat × Nat)) (k : α → T P G ρ) (k2 : β → T P G ρ) : T P G ρ
  | view {ρ α : Type} (a : Nat) (s : Spec P G α) (vs : List VwW) (k : α → T P G ρ) : T P G ρ
  | cnd {ρ ε : Type} (id : Nat) (ts : List Nat) (first : T P G ε) (E : ε → List V) (k : ε → T P G ρ) : T P G ρ
  | bind {ρ ε : Type} (j : Nat) (first : T P G ε) (E : ε → Ext) (k : ε → T P G ρ) : T P G ρ
  | bind2 {ρ ε ζ : Type} (j : Nat) (first : T P G (ε ⊕ ζ)) (E : ε → Ext) (E2 : ζ → Ext) (k : ε → T P G ρ) (k2 : ζ → T P G ρ) : T P G ρ
  | bind3 {ρ ε ζ η : Type} (j : Nat) (first : T P G (ε ⊕ (ζ ⊕ η))) (E : ε → Ext) (E2 : ζ → Ext) (E3 : η → Ext) (k : ε → T P G ρ) (k2 : ζ → T P G ρ) (k3 : η → T P G ρ) : T P G ρ
  | lp {σ ε : Type} (S : σ → Ext) (body : σ → T P G (σ ⊕ ε)) (x : σ) : T P G ε
  | gh {ρ : Type} (a : Nat) (g : GhW) (k : T P G ρ) : T P G ρ
  | ceq {ρ : Type} (a : Nat) (n : Int) (vs : List Int) (k : Int → T P G ρ) : T P G ρ

def iter {σ ε : Type} (f : σ → Option (σ ⊕ ε)) (n : Nat) : σ → Option ε :=
  Nat.rec (fun _ => none) (fun _ ih x => match f x with
    | none => none
    | some (.inl y) => ih y
    | some (.inr e) => some e) n

def FUEL : Nat := 18446744073709551616

/-- What a guide is worth. -/
def T.run {P : Program} {G : Nat → Option (List V)} : {ρ : Type} → T P G ρ → Option ρ
  | _, .done r => some r
  | _, .fail => none
  | _, .br _ c x y => bif c then x.run else y.run
  | _, .tt k => k.run
  | _, .ff k => k.run
  | _, .chk _ c k => bif c then k.run else none
  | _, .re _ _ k => k.run
  | _, .row _ _ l j c k => bif c then (match l[j]? with | some x => (k x).run | none => none) else none
  | _, .rowt _ _ l j _ k => match l[j]? with | some x => (k x).run | none => none
  | _, .hrow _ _ l _ j k => match l[j]? with | some _ => k.run | none => none
  | _, .rowg _ _ _ _ l j _ _ _ _ _ _ k => match l[j]? with | some x => (k x).run | none => none
  | _, .cutg _ _ _ l n _ k => bif decide (n ≤ l.length) then k.run else none
  | _, .nst _ _ l _ j _ _ _ o cut k => match l[j]? with | some _ => (match cut with | none => k.run | some n => bif decide (n ≤ o.length) then k.run else none) | none => none
  | _, .appn _ _ l _ _ _ _ _ bytes k => bif decide ((l.length + 1) * bytes ≤ 140737488355328) then k.run else none
  | _, .app _ _ l x bytes _ _ k => bif decide ((l.length + x.length) * bytes ≤ 140737488355328) then k.run else none
  | _, .call _ s _ _ k => match s.o with | some r => (k r).run | none => none
  | _, .call2 _ s _ _ k k2 => match s.o with | some (.inl r) => (k r).run | some (.inr r) => (k2 r).run | none => none
  | _, .view _ s _ k => match s.o with | some r => (k r).run | none => none
  | _, .cnd _ _ first _ k => match first.run with | some e => (k e).run | none => none
  | _, .bind _ first _ k => match first.run with | some e => (k e).run | none => none
  | _, .bind2 _ first _ _ k k2 => match first.run with | some (.inl e) => (k e).run | some (.inr e) => (k2 e).run | none => none
  | _, .bind3 _ first _ _ _ k k2 k3 => match first.run with | some (.inl e) => (k e).run | some (.inr (.inl e)) => (k2 e).run | some (.inr (.inr e)) => (k3 e).run | none => none
  | _, .lp _ body x => iter (fun y => (body y).run) FUEL x
  | _, .gh _ _ k => k.run
  | _, .ceq _ n vs k => bif vs.contains n then (k n).run else none

/-- What is checked. -/
inductive C : Type 1 where
  | stuck (why : Nat)
  | fail
  | fin (v : Option V) (e : Option Exit) (ts : List (Nat × V)) (bs : List (Nat × Option Blk))
  | fins (ts : List V)
  | br (c : Bool) (x y : C)
  | chk (c : Bool) (k : C)
  | re (w : List Wr) (k : C)
  | row {α : Type} (rows : List (List V)) (j : Nat) (c : Bool) (k : α → C)
  | hrow (rows : List (List V)) (j : Nat) (k : C)
  | nst (rows : List (List V)) (j : Nat) (drows : List (List V)) (off len : Nat) (row : List V) (k : C)
  | appn (rows : List (List V)) (len : Nat) (srows : List (List V)) (bytes : Nat) (drows : List (List V)) (cell : Option V) (k : C)
  | app (rows : List (List V)) (len : Nat) (srows : List (List V)) (bytes : Nat) (fl : Bool) (k : C)
  | call {α : Type} (f : FuncId) (args : List V) (ins : List (Nat × Blk)) (k : α → C)
  | call2 {α β : Type} (f : FuncId) (args : List V) (ins : List (Nat × Blk)) (k : α → C) (k2 : β → C)
  | view {α : Type} (f : FuncId) (args : List V) (eqs : List (Nat × List (List V) × Nat)) (k : α → C)
  | bind {ε : Type} (x : C) (k : ε → C)
  | bind2 {ε ζ : Type} (x : C) (k : ε → C) (k2 : ζ → C)
  | bind3 {ε ζ η : Type} (x : C) (k : ε → C) (k2 : ζ → C) (k3 : η → C)
  | loop {σ : Type} (ts : List (Nat × V)) (bs : List (Nat × Option Blk)) (body : σ → C)
  | gh (eqs : List (Nat × List (List V) × Nat)) (k : C)

/-- What a guide is to end in. -/
inductive Fin' : Type → Type 1 where
  | fn {ρ : Type} (rs : List ResultVar) (res : ρ → V) (outs : ρ → List (Nat × Blk)) : Fin' ρ
  | mid {ρ : Type} (E : ρ → Ext) : Fin' ρ
  | reg {ρ : Type} (ts : List Nat) (E : ρ → List V) : Fin' ρ
  | rnd {σ ε : Type} (S : σ → Ext) (E : ε → Ext) : Fin' (σ ⊕ ε)

def coeL (f : V → V → V) : List V → List V → List V
  | e :: es, c :: cs => f e c :: coeL f es cs
  | _, cs => cs

/-- A value told otherwise: a nil slice as a slice without rows; a right struck. -/
def coeV : Nat → V → V → V
  | 0, _, c => c
  | n + 1, e, c => match c with
    | .nilsl => match e with
      | .sl o z _ => .sl o z []
      | _ => .nilsl
    | .sl o z r => match e with
      | .sl false _ _ => .sl false z r
      | _ => .sl o z r
    | .agg cs => match e with
      | .agg es => .agg (coeL (coeV n) es cs)
      | _ => .agg cs
    | .tup cs => match e with
      | .tup es => .tup (coeL (coeV n) es cs)
      | _ => .tup cs
    | c => c

def extFin (e : Exit) (x : Ext) : C := .fin none (some e) x.ts (x.bs.map fun p => (p.1, some p.2))

def VwW.eqn (v : VwW) : Nat × List (List V) × Nat := (v.b, v.l.map v.ty.c, v.l.length)

def GhW.eqs : GhW → List (Nat × List (List V) × Nat)
  | .share vs => vs.map VwW.eqn
  | .len b _ ns _ => ns.map fun n => (b, [], n)
  | _ => []

/-- What is to be found. -/
def T.expect {P : Program} {G : Nat → Option (List V)} : {ρ : Type} → Fin' ρ → T P G ρ → C
  | _, F, .done r => match F with
    | .fn _ res outs => .fin (some (res r)) none [] ((outs r).map fun p => (p.1, some p.2))
    | .mid E => extFin (E r).ex (E r)
    | .reg _ E => .fins (E r)
    | .rnd S E => match r with
      | .inl y => extFin (S y).ex (S y)
      | .inr e => extFin (E e).ex (E e)
  | _, _, .fail => .fail
  | _, F, .br _ c x y => .br c (x.expect F) (y.expect F)
  | _, F, .tt k => k.expect F
  | _, F, .ff k => k.expect F
  | _, F, .chk _ c k => .chk c (k.expect F)
  | _, F, .re _ w k => .re w.a (k.expect F)
  | _, F, .row _ ty l j c k => .row (l.map ty.c) j c fun x => (k x).expect F
  | _, F, .rowt _ ty l j _ k => .row (l.map ty.c) j true fun x => (k x).expect F
  | _, F, .hrow _ ty l hole j k => .hrow ((l.map ty.c).set j hole) j (k.expect F)
  | _, F, .rowg _ _ _ ty l j _ _ _ _ _ _ k => .row (l.map ty.c) j true fun x => (k x).expect F
  | _, F, .cutg _ _ ty l n _ k => .hrow (l.map ty.c) n (k.expect F)
  | _, F, .nst _ ty l hole j _ y ty2 o cut k => match cut with
    | none => .nst ((l.map ty.c).set j hole) j (o.map ty2.c) 0 o.length (ty.c y) (k.expect F)
    | some n => .nst ((l.map ty.c).set j hole) j (o.map ty2.c) n (o.length - n) (ty.c y) (k.expect F)
  | _, F, .appn _ ty l y col d2 ty2 o bytes k => .appn (l.map ty.c) l.length [(ty.c y).set col (.ref d2 0 o.length)] bytes (o.map ty2.c) ((ty.c y)[col]?) (k.expect F)
  | _, F, .app _ ty l x bytes fl _ k => .app (l.map ty.c) l.length (x.map ty.c) bytes fl (k.expect F)
  | _, F, .call _ s _ _ k => .call s.f s.args s.ins fun r => (k r).expect F
  | _, F, .call2 _ s _ _ k k2 => .call2 s.f s.args s.ins (fun r => (k r).expect F) fun r => (k2 r).expect F
  | _, F, .view _ s vs k => .view s.f s.args (vs.map VwW.eqn) fun r => (k r).expect F
  | _, F, .cnd _ ts first E k => .bind (first.expect (.reg ts E)) fun e => (k e).expect F
  | _, F, .bind _ first E k => .bind (first.expect (.mid E)) fun e => (k e).expect F
  | _, F, .bind2 _ first E E2 k k2 => .bind2 (first.expect (.mid (Sum.elim E E2))) (fun e => (k e).expect F) fun e => (k2 e).expect F
  | _, F, .bind3 _ first E E2 E3 k k2 k3 => .bind3 (first.expect (.mid (Sum.elim E (Sum.elim E2 E3)))) (fun e => (k e).expect F) (fun e => (k2 e).expect F) fun e => (k3 e).expect F
  | _, F, .lp S body x => match F with
    | .mid E => .loop (S x).ts ((S x).bs.map fun p => (p.1, some p.2)) fun y => (body y).expect (.rnd S E)
    | _ => .fail
  | _, F, .gh _ g k => .gh g.eqs (k.expect F)
  | _, F, .ceq _ n vs k => vs.foldr (fun v r => .br (n == v) ((k v).expect F) r) .fail

end Go.EV

namespace Go.EV
open Go

structure D where
  n : Nat
  ts : List (Nat × V)
  bs : List (Nat × Blk)
  us : List Nat
  sy : List Nat

def D.st (d : D) : St := stOf d.n d.ts d.bs d.us

inductive Kf where
  | seq (y : Code)
  | block (id : Nat)
  | scope
  | lp (c : Code)

-- values brought to their forms

mutual
def nrm : Nat → V → (V → C) → C
  | 0, v, k => k v
  | n + 1, v, k => match v with
    | .int a b => k (.int a b)
    | .bool b => k (.bool b)
    | .str s => k (.str s)
    | .nilp => k .nilp
    | .nilf => k .nilf
    | .yld l => k (.yld l)
    | .nilsl => k .nilsl
    | .sl o z r => k (.sl o z r)
    | .snap l => nrmL n l fun l => k (.snap l)
    | .ref b o l => k (.ref b o l)
    | .ptr b i o => k (.ptr b i o)
    | .fn f a c => nrmL n a fun a => nrmL n c fun c => k (.fn f a c)
    | .agg l => nrmL n l fun l => k (.agg l)
    | .tup l => nrmL n l fun l => k (.tup l)
    | .undef => k .undef
def nrmL : Nat → List V → (List V → C) → C
  | 0, l, k => k l
  | n + 1, l, k => match l with
    | [] => k []
    | v :: l => nrm n v fun v => nrmL n l fun l => k (v :: l)
end

def nrmR : List (List V) → (List (List V) → C) → C
  | [], k => k []
  | r :: rs, k => nrmL 1000 r fun r => nrmR rs fun rs => k (r :: rs)

def nrmT : List (Nat × V) → (List (Nat × V) → C) → C
  | [], k => k []
  | (i, v) :: l, k => nrm 1000 v fun v => nrmT l fun l => k ((i, v) :: l)

def nrmB (sy : List Nat) : List (Nat × Blk) → (List (Nat × Blk) → C) → C
  | [], k => k []
  | (i, b) :: l, k => match sy.contains i with
    | true => match b with | ⟨z, x, r⟩ => nrmB sy l fun l => k ((i, ⟨z, x, r⟩) :: l)
    | false => match b with | ⟨z, x, r⟩ => nrmR r fun r => nrmB sy l fun l => k ((i, ⟨z, x, r⟩) :: l)

-- writes

def wrTs (ws : List Wr) : List Nat := ws.filterMap fun | .t i _ => some i | _ => none
def wrBs (ws : List Wr) : List Nat := ws.filterMap fun | .b i _ => some i | _ => none

def Plan.wts (p : Plan) : List Nat := p.flatMap fun x => wrTs x.2
def Plan.wbs (p : Plan) : List Nat := p.flatMap fun x => wrBs x.2

-- operations with a side condition

def binC (op : BinOp) (k : IntKind) (a b : Int) : Option (Bool × V) :=
  match op with
  | .quo => some (!(b == 0), .int k (k.wrap (a.tdiv b)))
  | .rem => some (!(b == 0), .int k (a.tmod b))
  | .shl => some (decide (0 ≤ b), .int k (k.wrap (a * 2 ^ (min b.toNat k.bits))))
  | .shr => some (decide (0 ≤ b), .int k (a.fdiv (2 ^ (min b.toNat k.bits))))
  | _ => none

def loC (lo : Option V) (h : Nat) : Option (Bool × Nat) :=
  match lo with
  | none => some (true, 0)
  | some (.int _ l) => some (decide (0 ≤ l) && decide (l ≤ h), l.toNat)
  | _ => none

def hiC (n : Nat) (hi mx : Option V) : Option (Bool × Nat) :=
  match hi, mx with
  | none, none => some (true, n)
  | some (.int _ h), none => some (decide (0 ≤ h) && decide (h ≤ n), h.toNat)
  | some (.int _ h), some (.int _ m) => some (decide (0 ≤ h) && (decide (h ≤ m) && decide (m ≤ n)), h.toNat)
  | _, _ => none

def cutC (n : Nat) (lo hi mx : Option V) : Option (Bool × Nat × Nat) :=
  match hiC n hi mx with
  | some (c1, h) => match loC lo h with
    | some (c2, l) => some (match hi, mx, lo with | none, none, _ => c2 | _, _, none => c1 | _, _, _ => c1 && c2, l, h)
    | none => none
  | none => none

def sliceC (P : Program) (look : Nat → Option Blk) (t : TypeId) (c : V) (lo hi mx : Option V) : Option (Bool × V) :=
  match P.underlying t with
  | some .string => match c, mx with
    | .str s, none => (cutC s.size lo hi none).map fun x => (x.1, .str (s.extract x.2.1 x.2.2))
    | _, _ => none
  | some (.slice e) => match P.info? e with
    | none => none
    | some ei => match c with
      | .sl _ size rows => if size = ei.size then (cutC rows.length lo hi mx).map fun x => (x.1, .sl false size ((rows.take x.2.2).drop x.2.1)) else none
      | .ref b off len => match look b with
        | some k => if k.size = ei.size then (cutC len lo hi mx).map fun x => (x.1, .ref b (match off with | 0 => x.2.1 | o + 1 => o + 1 + x.2.1) (x.2.2 - x.2.1)) else none
        | none => none
      | _ => none
  | _ => none

def readC (P : Program) (e : Operand → Option V) (look : Nat → Option Blk) (op : Op) : Option (Bool × V) :=
  match op with
  | .binOp op _ x y _ => match e x, e y with
    | some (.int k a), some (.int k' b) => match op with
      | .shl | .shr => binC op k a b
      | _ => if k = k' then binC op k a b else none
    | some (.str a), some (.str b) => match op with
      | .add => some (decide (a.size + b.size ≤ 9223372036854775807), .str (a ++ b))
      | _ => none
    | _, _ => none
  | .index t x i => match P.underlying t, e x, e i with
    | some .string, some (.str s), some (.int _ i) => some (decide (0 ≤ i ∧ i < s.size), .int .u8 (s.data.getD i.toNat 0).toNat)
    | _, _, _ => none
  | .indexAddr t x i => match P.underlying t, e x, e i with
    | some (.slice el), some (.ref b off len), some (.int _ n) => match P.info? el with
      | some ei => match look b with
        | some k => if k.size = ei.size then some (decide (0 ≤ n) && decide (n < len), .ptr b (off + n.toNat) 0) else none
        | none => none
      | none => none
    | _, _, _ => none
  | .slice t x lo hi mx => match e x, evO e lo, evO e hi, evO e mx with
    | some c, some l, some h, some m => sliceC P look t c l h m
    | _, _, _, _ => none
  | _ => none

def chkOp (P : Program) (G : Nat → Option (List V)) (ops : Array Oper) (i : Nat) (s : St) : Option (Bool × List Wr) :=
  match opAt ops i s with
  | some o => if dstOk s.n o.dst = true then (readC P (s.evC G o) (s.lookC o []) o.op).map fun x => (x.1, dstW o.dst x.2) else none
  | none => none

-- operations at a row that is looked up

def rowOp (P : Program) (G : Nat → Option (List V)) (ops : Array Oper) (i : Nat) (s : St) : Option (List (List V) × Nat × Bool × (List V → Option (List Wr))) :=
  match opAt ops i s with
  | some o => match o.op, o.dst with
    | .indexAddr t x j, some d => if d < s.n then match s.evC G o x, s.evC G o j with
        | some (.sl _ size rows), some (.int _ n) => if sliceSz P t = some size then some (rows, n.toNat, decide (0 ≤ n), fun r => some [.t d (.snap r)]) else none
        | _, _ => none
      else none
    | .load t x, some d => if d < s.n then match s.evC G o x with
        | some (.ptr b r off) => match s.lookC o [] b with
          | some k => some (k.rows, r, true, fun row => (loadCellsV P t (row.drop off)).map fun c => [.t d c])
          | none => none
        | _ => none
      else none
    | .store t x y, none => match s.evC G o x, s.evC G o y with
      | some (.ptr b r off), some c => match s.lookC o [] b with
        | some k => if k.excl = true then some (k.rows, r, true, fun row => (storeRowV P t k.size row off c).map fun r' => [.b b (some ⟨k.size, true, k.rows.set r (coeL (coeV 8) row r')⟩)]) else none
        | none => none
      | _, _ => none
    | _, _ => none
  | none => none

-- appends to a whole local slice that holds data

structure AppD where
  d : Nat
  b : Option Nat
  rows : List (List V)
  len : Nat
  excl : Bool
  sb : Option Nat
  srows : List (List V)
  size : Nat
  bytes : Nat
  fl : Bool

def appDst (look : Nat → Option Blk) (size : Nat) (c : V) : Option (Option Nat × List (List V) × Nat × Bool) :=
  match c with
  | .nilsl => some (none, [], 0, true)
  | .ref b 0 len => match look b with
    | some k => if k.size = size then some (some b, k.rows, len, k.excl) else none
    | none => none
  | _ => none

def appSrc (look : Nat → Option Blk) (size : Nat) (dst : Option Nat) (c : V) : Option (Option Nat × List (List V) × Bool) :=
  match c with
  | .nilsl => some (none, [], false)
  | .sl _ z rows => if z = size then some (none, rows, true) else none
  | .ref b 0 len => match look b with
    | some k => if k.size = size ∧ len = k.rows.length ∧ ¬ dst = some b then some (some b, k.rows, false) else none
    | none => none
  | _ => none

def appOp (P : Program) (G : Nat → Option (List V)) (ops : Array Oper) (ex : List Nat) (i : Nat) (s : St) : Option AppD :=
  match opAt ops i s with
  | some o => match o.op, o.dst with
    | .call { callee := .builtin .append, args := as, argTypes := ts }, some d => if d < s.n ∧ s.u d = false then match as.toList, ts.toList with
        | [x, y], [t, t2] => match s.evC G o x, s.evC G o y, P.underlying t, P.underlying t2 with
          | some cx, some cy, some (.slice e), some (.slice _) => match P.info? e with
            | some ei => if 0 < ei.bytes ∧ (zeroV P e).map List.length = some ei.size then match appDst (s.lookC o ex) ei.size cx with
                | some (b, rows, len, excl) => match appSrc (s.lookC o ex) ei.size b cy with
                  | some (sb, srows, fl) => some ⟨d, b, rows, len, excl, sb, srows, ei.size, ei.bytes, fl⟩
                  | none => none
                | none => none
              else none
            | none => none
          | _, _, _, _ => none
        | _, _ => none
      else none
    | _, _ => none
  | none => none

-- slices that lie in rows with their right

def takeOp (P : Program) (G : Nat → Option (List V)) (ops : Array Oper) (col i : Nat) (s : St) : Option (List (List V) × Nat × (List V → Option (List Wr))) :=
  match opAt ops i s with
  | some o => match o.op, o.dst with
    | .load t x, some d => if d < s.n ∧ s.u d = false then match s.evC G o x with
        | some (.ptr b r off) => match s.lookC o [] b with
          | some k => match isAggT P t with
            | false => some (k.rows, r, fun row => match row[off]? with
              | some (.sl true z rs) => some [.b b (some ⟨k.size, k.excl, k.rows.set r (row.set off (.sl false z rs))⟩), .b d (some ⟨z, false, rs.map (·.map V.strip)⟩), .t d (.ref d 0 rs.length)]
              | _ => none)
            | true => match P.info? t with
              | some ti => some (k.rows, r, fun row => match row[col]? with
                | some (.sl true z rs) => if off ≤ col ∧ off + ti.size ≤ row.length ∧ (P.underlying t).isSome = true then
                    some [.b b (some ⟨k.size, k.excl, k.rows.set r (row.set col (.sl false z rs))⟩), .b d (some ⟨z, false, rs.map (·.map V.strip)⟩), .t d (.agg (((row.set col (.ref d 0 rs.length)).drop off).take ti.size))]
                  else none
                | _ => none)
              | none => none
          | none => none
        | _ => none
      else none
    | _, _ => none
  | none => none

/-- A store of a slice of a whole block, which is laid there with its right: the block, its size, its rows, the row's number, the slice's block and its id, its length, the row behind it. -/
def nstOp (P : Program) (G : Nat → Option (List V)) (ops : Array Oper) (hole : List V) (fin : List (List V)) (col i : Nat) (s : St) : Option (Nat × Blk × Nat × Nat × Blk × Nat × Nat × List V) :=
  match opAt ops i s with
  | some o => match o.op, o.dst with
    | .store t x y, none => match s.evC G o x, s.evC G o y with
      | some (.ptr b r off), some c => match s.lookC o [] b with
        | some k => if k.excl = true then match storeRowV P t k.size hole off c with
            | some r' => match r'[col]? with
              | some (.ref d2 off2 len) => match s.lookC o [] d2 with
                | some kd => if b = d2 then none else some (b, k, r, d2, kd, off2, len, r'.set col (.sl true kd.size fin))
                | none => none
              | _ => none
            | none => none
          else none
        | none => none
      | _, _ => none
    | _, _ => none
  | none => none

-- calls

def renB (sy : List Nat) (b : Nat) (f : Nat → Nat) (k : Blk) : Blk := match sy.contains b with
  | true => k
  | false => k.ren f

def anyL (L : List (Nat × Nat)) (b : Nat) : Bool := L.any fun x => x.2 == b
def anyC (L : List (Nat × Nat)) (b : Nat) : Bool := L.any fun x => x.1 == b

def callOp (P : Program) (G : Nat → Option (List V)) (ops : Array Oper) (Li Lo : List (Nat × Nat)) (sy : List Nat) (i : Nat) (s : St) : Option (Option Nat × FuncId × List V × List (Nat × Blk)) :=
  match callG P G ops ((Li ++ Lo).map (·.2)) Li Lo [] i s with
  | some (dst, f, as, bl, _) =>
    if (idsOk Li Lo [] && bl.all fun x => sy.contains (toCaller (Li ++ Lo) x.1) || (refsL x.2.rows.flatten).all (anyL Li)) = true then
      some (dst, f, as, bl.map fun x => (x.1, renB sy (toCaller (Li ++ Lo) x.1) (toCallee (Li ++ Lo)) x.2))
    else none
  | none => none

def outsOk (L : List (Nat × Nat)) (dt : List Nat) (O : List (Nat × Blk)) (res : V) : Bool :=
  (O.all fun x => anyC L x.1 && (dt.contains x.1 || (refsL x.2.rows.flatten).all (anyC L))) && (refsV res).all (anyC L)

def callWs (L : List (Nat × Nat)) (dt : List Nat) (O : List (Nat × Blk)) (dst : Option Nat) (res : V) : List Wr :=
  (L.map fun x => Wr.b x.2 ((ofL O x.1).map (renB dt x.1 (toCaller L)))) ++ dstW dst (renV (toCaller L) res)

def syOuts (L : List (Nat × Nat)) (dt : List Nat) : List Nat := (L.filter fun x => dt.contains x.1).map (·.2)

-- calls whose arguments are seen as data

def viewG (look : Nat → Option Blk) (vs : List VwW) : Nat → V → Option V
  | 0, _ => none
  | n + 1, c => match c with
    | .ref b off len => match vs.find? (fun v => v.b == b) with
      | some v => match off with
        | 0 => match n with
          | 0 => none
          | _ + 1 => (look b).map fun k => .sl false k.size (v.l.map v.ty.d)
        | _ + 1 => none
      | none => viewV look (n + 1) (.ref b off len)
    | .ptr b i off => match look b with
      | some k => match k.rows[i]? with
        | some r => (mapO (fun c => onlyCell (viewG look vs n c)) (r.drop off)).map .snap
        | none => none
      | none => none
    | .fn f a c => match mapO (viewG look vs n) a, mapO (viewG look vs n) c with
      | some a', some c' => some (.fn f a' c')
      | _, _ => none
    | .agg l => (mapO (viewG look vs n) l).map .agg
    | .tup l => (mapO (viewG look vs n) l).map .tup
    | c => viewV look (n + 1) c

/-- The whole slices met on the way. -/
def viewE (look : Nat → Option Blk) (vs : List VwW) : Nat → V → List (Nat × List (List V) × Nat)
  | 0, _ => []
  | n + 1, c => match c with
    | .ref b _ len => match vs.find? (fun v => v.b == b) with
      | some _ => match look b with
        | some k => [(b, k.rows, len)]
        | none => []
      | none => []
    | .ptr b i off => match look b with
      | some k => match k.rows[i]? with
        | some r => (r.drop off).flatMap (viewE look vs n)
        | none => []
      | none => []
    | .fn _ a c => a.flatMap (viewE look vs n) ++ c.flatMap (viewE look vs n)
    | .agg l => l.flatMap (viewE look vs n)
    | .tup l => l.flatMap (viewE look vs n)
    | _ => []

def viewEx (vs : List VwW) : List Nat := vs.map (·.b)

def viewOp (P : Program) (G : Nat → Option (List V)) (ops : Array Oper) (ex : List Nat) (vs : List VwW) (i : Nat) (s : St) : Option (Option Nat × FuncId × List V × List (Nat × List (List V) × Nat)) :=
  match callAt P G ops i s with
  | some (o, f, cs) => (mapO (viewG (s.lookC o ex) vs 8) cs).map fun ds => (o.dst, f, ds, cs.flatMap (viewE (s.lookC o ex) vs 8))
  | none => none

/-- Blocks behind the arguments' own. -/
def reach (look : Nat → Option Blk) : Nat → List Nat → List Nat
  | 0, bs => bs
  | n + 1, bs => bs ++ reach look n (bs.flatMap fun b => match look b with | some k => refsL (k.rows.headD []) | none => [])

-- one operation

def coeR : List (List V) → List (List V) → List (List V)
  | e :: es, c :: cs => coeL (coeV 8) e c :: coeR es cs
  | _, cs => cs

/-- An append's source told as rows of a kind: nil slices as slices with a right. -/
def coeSrc (sy : List Nat) (sb : Option Nat) (e rows : List (List V)) : List (List V) := match sb with
  | some b => match sy.contains b with
    | true => rows
    | false => coeR e rows
  | none => rows

def syStep (sy : List Nat) (ws : List Wr) (told : List Nat) : List Nat := (told.filter fun b => (wrBs ws).contains b) ++ sy.filter fun b => !(wrBs ws).contains b

section
variable (P : Program) (G : Nat → Option (List V))

def reK (a : Nat) {ρ : Type} (k : T P G ρ) (R : List Loc) (ws : List Wr) (s : St) (p : Plan) (sy : List Nat) (next : T P G ρ → St → Plan → List Nat → C) : C :=
  match k with
  | .re a' w k' => match a' == a with
    | true => .re ws (next k' (s.app w.b) (p ++ [(R, w.b)]) (syStep sy w.b w.dt))
    | false => next k (s.app ws) (p ++ [(R, ws)]) (syStep sy ws [])
  | k => next k (s.app ws) (p ++ [(R, ws)]) (syStep sy ws [])

def dflt (ops : Array Oper) (i : Nat) {ρ : Type} (g : T P G ρ) (s : St) (p : Plan) (sy : List Nat) (next : T P G ρ → St → Plan → List Nat → C) : C :=
  match stepRW P G ops i s with
  | some (R, ws) => next g (s.app ws) (p ++ [(R, ws)]) (syStep sy ws [])
  | none => .stuck (1000 + i)

def dop (id : Nat) (ops : Array Oper) (i : Nat) {ρ : Type} (g : T P G ρ) (s : St) (p : Plan) (sy : List Nat) (next : T P G ρ → St → Plan → List Nat → C) : C :=
  match g with
  | .fail => .fail
  | .chk a c k => match a == id * 1000 + i + 1 with
    | true => match chkOp P G ops i s with
      | some (c', ws) => .chk c' (reK P G a k (opR ops i s []) ws s p sy next)
      | none => .stuck 1
    | false => dflt P G ops i (.chk a c k) s p sy next
  | .re a w k => match a == id * 1000 + i + 1 with
    | true => match stepRW P G ops i s with
      | some (R, ws) => .re ws (next k (s.app w.b) (p ++ [(R, w.b)]) (syStep sy w.b w.dt))
      | none => .stuck 2
    | false => dflt P G ops i (.re a w k) s p sy next
  | .row a ty l j c k => match a == id * 1000 + i + 1 with
    | true => match rowOp P G ops i s with
      | some (rows, j', c', f) => .row rows j' c' fun x => match f (ty.c x) with
        | some ws => reK P G a (k x) (opR ops i s []) ws s p sy next
        | none => .stuck 4
      | none => .stuck 3
    | false => dflt P G ops i (.row a ty l j c k) s p sy next
  | .app a ty l x bytes fl hf k => match a == id * 1000 + i + 1 with
    | true => match appOp P G ops [] i s with
      | some A => .app A.rows A.len (coeSrc sy A.sb (x.map ty.c) A.srows) A.bytes A.fl (
          let ws := delW A.b ++ (delW A.sb ++ [.b A.d (some ⟨A.size, A.excl, (l ++ x).map ty.c⟩), .t A.d (.ref A.d 0 (l ++ x).length)])
          next k (s.app ws) (p ++ [(opR ops i s [], ws)]) (syStep sy ws [A.d]))
      | none => .stuck 5
    | false => dflt P G ops i (.app a ty l x bytes fl hf k) s p sy next
  | .hrow a ty l hole j k => match a == id * 1000 + i + 1 with
    | true => match rowOp P G ops i s with
      | some (rows, j', c', f) => match c' with
        | true => match f hole with
          | some ws => .hrow rows j' (reK P G a k (opR ops i s []) ws s p sy next)
          | none => .stuck 4
        | false => .stuck 3
      | none => .stuck 3
    | false => dflt P G ops i (.hrow a ty l hole j k) s p sy next
  | .rowt a ty l j col k => match a == id * 1000 + i + 1 with
    | true => match takeOp P G ops col i s with
      | some (rows, j', f) => .row rows j' true fun x => match f (ty.c x) with
        | some ws => reK P G a (k x) (opR ops i s []) ws s p sy next
        | none => .stuck 4
      | none => .stuck 3
    | false => dflt P G ops i (.rowt a ty l j col k) s p sy next
  | .nst a ty l hole j col y ty2 o cut k => match a == id * 1000 + i + 1 with
    | true => match nstOp P G ops hole ((match cut with | none => o | some n => o.drop n).map ty2.c) col i s with
      | some (b, kb, r, d2, kd, off, len, row) => .nst kb.rows r kd.rows off len row (
          let ws := [.b b (some ⟨kb.size, true, (l.set j y).map ty.c⟩), .b d2 none]
          next k (s.app ws) (p ++ [(opR ops i s [], ws)]) (syStep sy ws [b]))
      | none => .stuck 11
    | false => dflt P G ops i (.nst a ty l hole j col y ty2 o cut k) s p sy next
  | .appn a ty l y col d2 ty2 o bytes k => match a == id * 1000 + i + 1 with
    | true => match appOp P G ops [d2] i s, s.b d2 with
      | some A, some kd => match !(A.fl || (A.d == d2 || (A.b == some d2 || A.sb == some d2))) with
        | true => .appn A.rows A.len A.srows A.bytes kd.rows (some (.sl true kd.size kd.rows)) (
            let ws := delW A.b ++ (delW A.sb ++ [.b A.d (some ⟨A.size, A.excl, (l ++ [y]).map ty.c⟩), .t A.d (.ref A.d 0 (l ++ [y]).length), .b d2 none])
            next k (s.app ws) (p ++ [(opR ops i s [d2], ws)]) (syStep sy ws [A.d]))
        | false => .stuck 13
      | _, _ => .stuck 12
    | false => dflt P G ops i (.appn a ty l y col d2 ty2 o bytes k) s p sy next
  | .call a sp Li Lo k => match a == id * 1000 + i + 1 with
    | true => match callOp P G ops Li Lo sy i s with
      | some (dst, f, as, ins) => .call f (coeL (coeV 8) sp.args as) ins fun r => match outsOk (Li ++ Lo) sp.dt (sp.outs r) (sp.res r) with
        | true => reK P G a (k r) (opR ops i s ((Li ++ Lo).map (·.2))) (callWs (Li ++ Lo) sp.dt (sp.outs r) dst (sp.res r)) s p sy fun g s p sy => next g s p (syOuts (Li ++ Lo) sp.dt ++ sy)
        | false => .stuck 7
      | none => .stuck 6
    | false => dflt P G ops i (.call a sp Li Lo k) s p sy next
  | .call2 a sp Li Lo k k2 => match a == id * 1000 + i + 1 with
    | true => match callOp P G ops Li Lo sy i s with
      | some (dst, f, as, ins) => .call2 f (coeL (coeV 8) sp.args as) ins (fun r => match outsOk (Li ++ Lo) sp.dt (sp.outs (.inl r)) (sp.res (.inl r)) with
        | true => reK P G a (k r) (opR ops i s ((Li ++ Lo).map (·.2))) (callWs (Li ++ Lo) sp.dt (sp.outs (.inl r)) dst (sp.res (.inl r))) s p sy fun g s p sy => next g s p (syOuts (Li ++ Lo) sp.dt ++ sy)
        | false => .stuck 7) fun r => match outsOk (Li ++ Lo) sp.dt (sp.outs (.inr r)) (sp.res (.inr r)) with
        | true => reK P G a (k2 r) (opR ops i s ((Li ++ Lo).map (·.2))) (callWs (Li ++ Lo) sp.dt (sp.outs (.inr r)) dst (sp.res (.inr r))) s p sy fun g s p sy => next g s p (syOuts (Li ++ Lo) sp.dt ++ sy)
        | false => .stuck 7
      | none => .stuck 6
    | false => dflt P G ops i (.call2 a sp Li Lo k k2) s p sy next
  | .view a sp vs k => match a == id * 1000 + i + 1 with
    | true => match ops[i]? with
      | some o =>
        let ex := reach s.b 3 (opBs s o)
        match viewOp P G ops ex vs i s with
        | some (dst, f, ds, eqs) => .view f (coeL (coeV 8) sp.args ds) eqs fun r => match flatB (sp.res r) && (sp.ins.isEmpty && (sp.outs r).isEmpty) with
          | true => next (k r) (s.app (dstW dst (sp.res r))) (p ++ [(opR ops i s ex, dstW dst (sp.res r))]) sy
          | false => .stuck 10
        | none => .stuck 9
      | none => .stuck 8
    | false => dflt P G ops i (.view a sp vs k) s p sy next
  | g => dflt P G ops i g s p sy next

/-- The guard's temp, where it is not known. -/
def guardT (ops : Array Oper) (i : Nat) (s : St) : Option (Nat × Bool) :=
  match ops[i]? with
  | some o => match o.guard with
    | some (j, _) => match (ops[j]?).bind (·.dst) with
      | some d => match s.t d with
        | .bool b => some (d, b)
        | _ => none
      | none => none
    | none => none
  | none => none

/-- The index' temp. -/
def idxT (ops : Array Oper) (i : Nat) (s : St) : Option (Nat × IntKind × Int) :=
  match ops[i]? with
  | some o => match o.op with
    | .indexAddr _ _ (.tmp t) => match s.t t with
      | .int k m => some (t, k, m)
      | _ => none
    | _ => none
  | none => none

def rg (id : Nat) (ops : Array Oper) : List Nat → {ρ : Type} → T P G ρ → St → Plan → List Nat → (T P G ρ → St → Plan → List Nat → C) → C
  | [], _, g, s, p, sy, κ => κ g s p sy
  | i :: l, _, g, s, p, sy, κ => match g with
    | .br a c x y => match a == id * 1000 + i + 1 with
      | true => match guardT ops i s with
        | some (d, b) => .br b (dop P G id ops i x (s.setT d (.bool true)) p sy fun g s p sy => rg id ops l g s p sy κ) (dop P G id ops i y (s.setT d (.bool false)) p sy fun g s p sy => rg id ops l g s p sy κ)
        | none => .stuck 20
      | false => dop P G id ops i (.br a c x y) s p sy fun g s p sy => rg id ops l g s p sy κ
    | .ceq a n vs k => match a == id * 1000 + i + 1 with
      | true => match idxT ops i s with
        | some (t, kd, m) => vs.foldr (fun v r => .br (m == v) (dop P G id ops i (k v) (s.setT t (.int kd v)) p sy fun g s p sy => rg id ops l g s p sy κ) r) .fail
        | none => .stuck 21
      | false => dop P G id ops i (.ceq a n vs k) s p sy fun g s p sy => rg id ops l g s p sy κ
    | g => dop P G id ops i g s p sy fun g s p sy => rg id ops l g s p sy κ

end

-- a region's end

def okU (us : List Nat) (i : Nat) : Bool := us.contains i || uTop i

def blkOkB (us sy : List Nat) (p : Nat × Blk) : Bool := sy.contains p.1 || p.2.rows.all fun r => r.all (okV (okU us))

def newTs (kp wt : List Nat) (s : St) : List (Nat × V) := (kp.filter fun i => wt.contains i).map fun i => (i, s.t i)

def dedup : List Nat → List Nat
  | [] => []
  | x :: l => match l.contains x with
    | true => dedup l
    | false => x :: dedup l

def newBs (wb : List Nat) (s : St) : List (Nat × Blk) := (dedup wb).filterMap fun b => match s.b b with
  | some k => some (b, k)
  | none => none

def regEnd (kp : List Nat) (d : D) (s : St) (p : Plan) (sy : List Nat) (next : D → C) : C :=
  let wt := p.wts
  let wb := p.wbs
  let us := dedup (wb ++ d.us)
  nrmT (newTs kp wt s) fun nt => nrmB sy (newBs wb s) fun nb =>
    match nt.all (fun x => okV (okU us) x.2) && nb.all (blkOkB us sy) with
    | true => next ⟨d.n, nt ++ d.ts.filter (fun x => !wt.contains x.1), nb ++ d.bs.filter (fun x => !wb.contains x.1), us, sy⟩
    | false => .stuck 30

/-- The end of a region that is told by some temps alone. -/
def regFin (P : Program) (G : Nat → Option (List V)) (ops : Array Oper) (draw : Bool) (ts : List Nat) (d : D) {ρ : Type} (g : T P G ρ) (s : St) (p : Plan) : C :=
  match g with
  | .done _ => match (!draw || drawOk ops p) && ((p.wbs.all fun b => !(d.bs.any fun x => x.1 == b)) && (p.wts.all fun t => (ops.toList.filterMap (·.dst)).contains t)) with
    | true => .fins (ts.map s.t)
    | false => .stuck 31
  | .fail => .fail
  | _ => .stuck 32

def cndD (ops : Array Oper) (ts : List Nat) (d : D) (vs : List V) : D :=
  { d with ts := ts.zip vs ++ d.ts.filter fun x => !(ops.toList.filterMap (·.dst)).contains x.1 && !ts.contains x.1 }

-- states told

def Ext.us (x : Ext) : List Nat := x.bs.map (·.1)
def Ext.D (n : Nat) (x : Ext) : D := ⟨n, x.ts, x.bs, x.us, x.dt⟩
def Ext.ok (x : Ext) : Bool := x.ts.all (fun p => okV (okU x.us) p.2) && x.bs.all (blkOkB x.us x.dt)

def isNormal : Exit → Bool
  | .normal => true
  | _ => false

def coeB (dt : List Nat) (id : Nat) (e : Blk) (act : Option Blk) : Option Blk := match dt.contains id with
  | true => act
  | false => act.map fun k => ⟨k.size, k.excl, coeR e.rows k.rows⟩

def extTs (x : Ext) (st : St) : List (Nat × V) := x.ts.map fun p => (p.1, coeV 8 p.2 (st.t p.1))
def extBs (x : Ext) (st : St) : List (Nat × Option Blk) := x.bs.map fun p => (p.1, coeB x.dt p.1 p.2 (st.b p.1))

def finExt (e : Exit) (x : Ext) (d : D) : C := .fin none (some e) (extTs x d.st) (extBs x d.st)

def fin (P : Program) (G : Nat → Option (List V)) {ρ : Type} (F : Fin' ρ) (g : T P G ρ) (e : Exit) (d : D) : C :=
  match g with
  | .done r => match F with
    | .fn rs res outs => match e with
      | .normal | .ret => .fin ((resultsV P d.st rs).map (coeV 8 (res r))) none [] ((outs r).map fun p => (p.1, d.st.b p.1))
      | _ => .stuck 41
    | .mid E => finExt e (E r) d
    | .rnd S E => match r with
      | .inl y => match isNormal e with
        | true => finExt e (S y) d
        | false => .stuck 42
      | .inr z => match isNormal e with
        | true => .stuck 43
        | false => finExt e (E z) d
    | .reg _ _ => .stuck 44
  | _ => .stuck 40

-- ghost steps

/-- Whole slices of a block, told as data. -/
def shD (b z : Nat) (rows : List (List V)) : Nat → V → V
  | 0, _ => .undef
  | n + 1, c => match c with
    | .ref b' off len => match b' == b with
      | true => match off with
        | 0 => .sl false z rows
        | o + 1 => .ref b' (o + 1) len
      | false => .ref b' off len
    | .fn f x y => .fn f (x.map (shD b z rows n)) (y.map (shD b z rows n))
    | .agg l => .agg (l.map (shD b z rows n))
    | .tup l => .tup (l.map (shD b z rows n))
    | c => c

def shE (b : Nat) (rows : List (List V)) : Nat → V → List (Nat × List (List V) × Nat)
  | 0, _ => []
  | n + 1, c => match c with
    | .ref b' off len => match b' == b with
      | true => match off with
        | 0 => [(b, rows, len)]
        | _ + 1 => []
      | false => []
    | .fn _ x y => x.flatMap (shE b rows n) ++ y.flatMap (shE b rows n)
    | .agg l => l.flatMap (shE b rows n)
    | .tup l => l.flatMap (shE b rows n)
    | _ => []

/-- The length of a block's whole slices told otherwise. -/
def lnD (b m : Nat) : Nat → V → V
  | 0, c => c
  | n + 1, c => match c with
    | .ref b' off len => match b' == b with
      | true => match off with
        | 0 => .ref b' 0 m
        | o + 1 => .ref b' (o + 1) len
      | false => .ref b' off len
    | .fn f x y => .fn f (x.map (lnD b m n)) (y.map (lnD b m n))
    | .agg l => .agg (l.map (lnD b m n))
    | .tup l => .tup (l.map (lnD b m n))
    | c => c

def lnB (sy : List Nat) (b m : Nat) (p : Nat × Blk) : Nat × Blk := match sy.contains p.1 with
  | true => p
  | false => (p.1, ⟨p.2.size, p.2.excl, p.2.rows.map (·.map (lnD b m 6))⟩)

def lnEB (sy : List Nat) (b : Nat) (p : Nat × Blk) : List (Nat × List (List V) × Nat) := match sy.contains p.1 with
  | true => []
  | false => p.2.rows.flatMap fun r => r.flatMap (shE b [] 6)

def ghE (w : GhW) (d : D) : List (Nat × List (List V) × Nat) :=
  match w with
  | .share (v :: _) => match d.st.b v.b with
    | some k => (d.ts.flatMap fun p => shE v.b k.rows 6 p.2) ++ d.bs.flatMap fun p => match p.1 == v.b || d.sy.contains p.1 with
      | true => []
      | false => p.2.rows.flatMap fun r => r.flatMap (shE v.b k.rows 6)
    | none => []
  | .len b _ _ _ => (d.ts.flatMap fun p => shE b [] 6 p.2) ++ d.bs.flatMap (lnEB d.sy b)
  | _ => []

def shareBs (d : D) (v : VwW) (k : Blk) : List (Nat × Blk) := (d.bs.filter fun p => !(p.1 == v.b)).map fun p => (p.1, match d.sy.contains p.1 with
  | true => p.2
  | false => ⟨p.2.size, p.2.excl, p.2.rows.map (·.map (shD v.b k.size (v.l.map v.ty.d) 6))⟩)

def setCell (k : Blk) (j : Nat) (c : V) : Blk := ⟨k.size, k.excl, match k.rows with | r :: rs => r.set j c :: rs | [] => []⟩

/-- A slice taken out of its cell. -/
def takeD (d : D) (b dd : Nat) (kb : Blk) (_n : Nat) (rows : List (List V)) (z : Nat) (rs : List (List V)) : D :=
  ⟨d.n, d.ts, (dd, ⟨z, false, rs⟩) :: (b, ⟨kb.size, kb.excl, rows⟩) :: d.bs.filter (fun p => !(p.1 == b)), dd :: d.us, dd :: d.sy.filter (fun x => !(x == b))⟩

/-- A block's beginning given up. -/
def cutB' (sy : List Nat) (b k : Nat) (p : Nat × Blk) : Nat × Blk := match sy.contains p.1 with
  | true => p
  | false => (p.1, ⟨p.2.size, p.2.excl, p.2.rows.map (·.map (cutV b k 6))⟩)

def cutX (d : D) (b : Nat) (kb : Blk) (rows : List (List V)) (k : Nat) (next : D → C) : C :=
  nrmT (d.ts.map fun p => (p.1, cutV b k 6 p.2)) fun ts => nrmB (b :: d.sy) ((b, ⟨kb.size, kb.excl, rows⟩) :: (d.bs.filter fun p => !(p.1 == b)).map (cutB' d.sy b k)) fun bs =>
    next ⟨d.n, ts, bs, d.us, b :: d.sy⟩

def ghX (w : GhW) (d : D) (next : D → C) : C :=
  match w with
  | .virt b t size => match d.st.t t, okU d.us b with
    | .nilsl, false => next { d with ts := (t, .ref b 0 0) :: d.ts.filter (fun x => !(x.1 == t)), bs := (b, ⟨size, true, []⟩) :: d.bs, us := b :: d.us }
    | _, _ => .stuck 50
  | .virtC b x j size => match d.st.b x, okU d.us b, d.sy.contains x with
    | some k, false, false => match k.rows with
      | r :: _ => match r[j]? with
        | some .nilsl => next { d with bs := (b, ⟨size, true, []⟩) :: (x, setCell k j (.ref b 0 0)) :: d.bs.filter (fun p => !(p.1 == x)), us := b :: d.us }
        | _ => .stuck 52
      | [] => .stuck 52
    | _, _, _ => .stuck 53
  | .ren a b => match okU d.us b, a == b with
    | false, false => nrmT (d.ts.map fun p => (p.1, renV (renF a b) p.2)) fun ts => nrmB ((d.sy.filter fun x => !(x == b)).map (renF a b)) (d.bs.map fun p => (renF a b p.1, renB d.sy p.1 (renF a b) p.2)) fun bs =>
        next ⟨d.n, ts, bs, b :: d.us, (d.sy.filter fun x => !(x == b)).map (renF a b)⟩
    | _, _ => .stuck 54
  | .drop l =>
    let us := d.us.filter fun b => !l.contains b
    match (d.bs.filter fun p => !l.contains p.1).all fun p => okU us p.1 && blkOkB us d.sy p with
    | true => next ⟨d.n, d.ts.filter (fun p => okV (okU us) (d.st.t p.1)), d.bs.filter (fun p => !l.contains p.1), us, d.sy⟩
    | false => .stuck 55
  | .len b m _ _ => nrmT (d.ts.map fun p => (p.1, lnD b m 6 p.2)) fun ts => nrmB d.sy (d.bs.map (lnB d.sy b m)) fun bs => next ⟨d.n, ts, bs, d.us, d.sy⟩
  | .share (v :: _) => match d.st.b v.b with
    | some k => match d.sy.contains v.b || k.rows.all fun r => r.all dcell with
      | true => nrmT (d.ts.map fun p => (p.1, shD v.b k.size (v.l.map v.ty.d) 6 p.2)) fun ts =>
          nrmB d.sy (shareBs d v k) fun bs =>
          next ⟨d.n, ts, bs, v.b :: d.us, d.sy⟩
      | false => .stuck 56
    | none => .stuck 57
  | _ => .stuck 51

-- the executor

abbrev Rec (P : Program) (G : Nat → Option (List V)) := (ρ : Type) → Fin' ρ → T P G ρ → Code ⊕ Exit → List Kf → D → C

section
variable {P : Program} {G : Nat → Option (List V)} (kp : List Nat) (rec : Rec P G) {ρ : Type} (F : Fin' ρ)

/-- At an exit. -/
def sxE (g : T P G ρ) (e : Exit) (K : List Kf) (d : D) : C :=
  match K with
  | [] => fin P G F g e d
  | .seq y :: K => match isNormal e with
    | true => rec ρ F g (.inl y) K d
    | false => rec ρ F g (.inr e) K d
  | .block id :: K => match e with
    | .exit id' => match id' == id with
      | true => rec ρ F g (.inr .normal) K d
      | false => rec ρ F g (.inr (.exit id')) K d
    | e => rec ρ F g (.inr e) K d
  | .scope :: K => match e with
    | .goto _ => .stuck 60
    | e => rec ρ F g (.inr e) K d
  | .lp c :: K => match isNormal e with
    | true => rec ρ F g (.inl c) (.lp c :: K) d
    | false => rec ρ F g (.inr e) K d

/-- A region. -/
def sxRg (id : Nat) (ops : Array Oper) (draw : Bool) (g : T P G ρ) (K : List Kf) (d : D) : C :=
  rg P G id ops (List.range' 0 ops.size) g d.st [] d.sy fun g s p sy => match !draw || drawOk ops p with
    | true => regEnd kp d s p sy fun d' => rec ρ F g (.inr .normal) K d'
    | false => .stuck 63

def sxR (id : Nat) (ops : Array Oper) (draw : Bool) (g : T P G ρ) (K : List Kf) (d : D) : C :=
  match g with
  | .cnd id' ts first E k => match id' == id with
    | true => .bind (rg P G id ops (List.range' 0 ops.size) first d.st [] d.sy fun g s p _ => regFin P G ops draw ts d g s p) fun e => match (E e).all (okV (okU d.us)) && (E e).length == ts.length with
      | true => rec ρ F (k e) (.inr .normal) K (cndD ops ts d (E e))
      | false => .stuck 61
    | false => sxRg kp rec F id ops draw (.cnd id' ts first E k) K d
  | g => sxRg kp rec F id ops draw g K d

/-- A test, a block, a loop. -/
def sxN (g : T P G ρ) (c : Code) (K : List Kf) (d : D) : C :=
  match c with
  | .cond o x y => match g with
    | .br _ _ a b => match d.st.ev G o with
      | some (.bool c) => .br c (rec ρ F a (.inl x) K d) (rec ρ F b (.inl y) K d)
      | _ => .stuck 65
    | .tt k => match d.st.ev G o with
      | some (.bool c) => match c with
        | true => rec ρ F k (.inl x) K d
        | false => .stuck 66
      | _ => .stuck 66
    | .ff k => match d.st.ev G o with
      | some (.bool c) => match c with
        | false => rec ρ F k (.inl y) K d
        | true => .stuck 67
      | _ => .stuck 67
    | _ => .stuck 68
  | .block id x => rec ρ F g (.inl x) (.block id :: K) d
  | .scope x => rec ρ F g (.inl x) (.scope :: K) d
  | .loop x => match g with
    | .lp S body x0 => match F with
      | .mid E => match K with
        | [] => .loop (extTs (S x0) d.st) (extBs (S x0) d.st) fun y => match (S y).ok && isNormal (S y).ex with
          | true => rec _ (.rnd S E) (body y) (.inl x) [] ((S y).D d.n)
          | false => .stuck 69
        | _ :: _ => .stuck 73
      | _ => .stuck 74
    | g => rec ρ F g (.inl x) (.lp x :: K) d
  | _ => .stuck 71

def sxB (g : T P G ρ) (c : Code) (K : List Kf) (d : D) : C :=
  match g with
  | .bind 0 first E k => .bind (rec _ (.mid E) first (.inl c) [] d) fun e => match (E e).ok with
    | true => rec ρ F (k e) (.inr (E e).ex) K ((E e).D d.n)
    | false => .stuck 64
  | .bind2 0 first E E2 k k2 => .bind2 (rec _ (.mid (Sum.elim E E2)) first (.inl c) [] d)
    (fun e => match (E e).ok with
      | true => rec ρ F (k e) (.inr (E e).ex) K ((E e).D d.n)
      | false => .stuck 64) fun e => match (E2 e).ok with
      | true => rec ρ F (k2 e) (.inr (E2 e).ex) K ((E2 e).D d.n)
      | false => .stuck 64
  | .bind3 0 first E E2 E3 k k2 k3 => .bind3 (rec _ (.mid (Sum.elim E (Sum.elim E2 E3))) first (.inl c) [] d)
    (fun e => match (E e).ok with
      | true => rec ρ F (k e) (.inr (E e).ex) K ((E e).D d.n)
      | false => .stuck 64) (fun e => match (E2 e).ok with
      | true => rec ρ F (k2 e) (.inr (E2 e).ex) K ((E2 e).D d.n)
      | false => .stuck 64) fun e => match (E3 e).ok with
      | true => rec ρ F (k3 e) (.inr (E3 e).ex) K ((E3 e).D d.n)
      | false => .stuck 64
  | .bind2 (j + 1) first E E2 k k2 => match c with
    | .block id x => rec ρ F (.bind2 j first E E2 k k2) (.inl x) (.block id :: K) d
    | .scope x => rec ρ F (.bind2 j first E E2 k k2) (.inl x) (.scope :: K) d
    | .loop x => rec ρ F (.bind2 j first E E2 k k2) (.inl x) (.lp x :: K) d
    | _ => .stuck 72
  | .bind3 (j + 1) first E E2 E3 k k2 k3 => match c with
    | .block id x => rec ρ F (.bind3 j first E E2 E3 k k2 k3) (.inl x) (.block id :: K) d
    | .scope x => rec ρ F (.bind3 j first E E2 E3 k k2 k3) (.inl x) (.scope :: K) d
    | .loop x => rec ρ F (.bind3 j first E E2 E3 k k2 k3) (.inl x) (.lp x :: K) d
    | _ => .stuck 72
  | .bind (j + 1) first E k => match c with
    | .block id x => rec ρ F (.bind j first E k) (.inl x) (.block id :: K) d
    | .scope x => rec ρ F (.bind j first E k) (.inl x) (.scope :: K) d
    | .loop x => rec ρ F (.bind j first E k) (.inl x) (.lp x :: K) d
    | _ => .stuck 72
  | g => sxN rec F g c K d

def sxC (g : T P G ρ) (c : Code) (K : List Kf) (d : D) : C :=
  match c with
  | .skip => rec ρ F g (.inr .normal) K d
  | .label _ => rec ρ F g (.inr .normal) K d
  | .exit id => rec ρ F g (.inr (.exit id)) K d
  | .ret => rec ρ F g (.inr .ret) K d
  | .seq x y => rec ρ F g (.inl x) (.seq y :: K) d
  | .region id ops draw => sxR kp rec F id ops draw g K d
  | c => sxB rec F g c K d

/-- May this ghost step be taken here? -/
def ghAt (a : Nat) (cur : Code ⊕ Exit) (K : List Kf) : Bool :=
  match cur with
  | .inr _ => K.isEmpty && a == 0
  | .inl (.loop _) => a == 1
  | .inl (.region id _ _) => a == id + 2
  | _ => false

def sxD (g : T P G ρ) (cur : Code ⊕ Exit) (K : List Kf) (d : D) : C :=
  match cur with
  | .inr e => sxE rec F g e K d
  | .inl c => sxC kp rec F g c K d

def sxS (g : T P G ρ) (cur : Code ⊕ Exit) (K : List Kf) (d : D) : C :=
  match g with
  | .fail => .fail
  | .gh a w k => match ghAt a cur K with
    | true => .gh (ghE w d) (ghX w d fun d' => rec ρ F k cur K d')
    | false => sxD kp rec F (.gh a w k) cur K d
  | .cutg a b ty l n hs k => match ghAt a cur K with
    | true => match d.st.b b, decide (b < 1000000) with
      | some kb, true => .hrow kb.rows n (cutX d b kb ((l.drop n).map ty.c) n fun d' => rec ρ F k cur K d')
      | _, _ => .stuck 59
    | false => sxD kp rec F (.cutg a b ty l n hs k) cur K d
  | .rowg a b dd ty l j col z ty2 o hc hs k => match ghAt a cur K with
    | true => match d.st.b b, okU d.us dd, okU d.us b with
      | some kb, false, true => .row kb.rows j true fun x => rec ρ F (k x) cur K (takeD d b dd kb l.length ((l.map ty.c).set j ((ty.c x).set col (.ref dd 0 (o x).length))) z ((o x).map ty2.c))
      | _, _, _ => .stuck 58
    | false => sxD kp rec F (.rowg a b dd ty l j col z ty2 o hc hs k) cur K d
  | g => sxD kp rec F g cur K d

end

def sx (P : Program) (G : Nat → Option (List V)) (kp : List Nat) (n : Nat) : Rec P G :=
  Nat.rec (fun _ _ _ _ _ _ => .stuck 99) (fun _ ih ρ F g cur K d => sxS kp ih (ρ := ρ) F g cur K d) n

end Go.EV
