/- The value-level logic: more steps that change only how a state is told: cells told otherwise, a block's name changed, a block given up; no conditions.
   Guided execution: the guide (a tree that says what a function's body comes to), what it is worth, and what is checked of it. Definitions and first lemmas; no conditions.
   Guided execution: the executor, which goes through a function's body by its guide and says what is to be checked. Definitions; no conditions.
   Guided execution: what is found holds, one operation at a time; no conditions. -/
import Derived.Test.YtioobnkmohikjaaGreatDoorY3
import Derived.KernelRfl
namespace Go.EV
open Go
def Wk (bs : Nat → Option Blk) (u : Nat → Bool) (c c' : V) : Prop := ∀ (γ : Gh) (w : World) (v : Value), Rep γ w bs u c v → Rep γ w bs u c' v
theorem Wk.refl {bs : Nat → Option Blk} {u : Nat → Bool} (c : V) : Wk bs u c c := fun _ _ _ h => h
def RowsRel (R : V → V → Prop) (rows rows' : List (List V)) : Prop :=
 rows'.length = rows.length ∧ ∀ (i : Nat) (r' : List V), rows'[i]? = some r' → ∃ r, rows[i]? = some r ∧ r'.length = r.length ∧ ∀ (j : Nat) (c' : V), r'[j]? = some c' → ∃ c, r[j]? = some c ∧ R c c'
theorem RowsRel.sizes {R : V → V → Prop} {rows rows' : List (List V)} (h : RowsRel R rows rows') {s : Nat} (hs : ∀ r, r ∈ rows → r.length = s) : ∀ r, r ∈ rows' → r.length = s := fun r' hr => by
 obtain ⟨i, hi⟩ := List.mem_iff_getElem?.1 hr
 obtain ⟨r, h1, h2, _⟩ := h.2 i r' hi
 rw [h2]; exact hs r (List.mem_of_getElem? h1)
theorem RowsRel.flat {R : V → V → Prop} {rows rows' : List (List V)} (h : RowsRel R rows rows') {s : Nat} (hs : ∀ r, r ∈ rows → r.length = s) {i : Nat} {c' : V} (hc : rows'.flatten[i]? = some c') : ∃ c, rows.flatten[i]? = some c ∧ R c c' := by
 have hs' := h.sizes hs
 rcases Nat.eq_zero_or_pos s with h0 | hpos
 ·subst h0
  have : rows'.flatten = [] := by
   rw [List.flatten_eq_nil_iff]; exact fun r hr => List.length_eq_zero_iff.1 (hs' r hr)
  rw [this] at hc; simp at hc
 ·have e : i = (i / s) * s + i % s := by rw [Nat.mul_comm]; exact (Nat.div_add_mod i s).symm
  have hm := Nat.mod_lt i hpos
  have hget := flatten_get rows' hs' (i / s) (i % s) hm
  rw [← e, hc] at hget
  cases hr : rows'[i / s]? with
  | none => rw [hr] at hget; simp at hget
  | some r' =>
   rw [hr] at hget
   simp only [Option.bind_some] at hget
   obtain ⟨r, h1, _, h3⟩ := h.2 _ r' hr
   obtain ⟨c, h4, h5⟩ := h3 _ c' hget.symm
   exact ⟨c, by rw [e, flatten_get rows hs _ _ hm, h1]; exact h4, h5⟩
theorem Gst.cells {G : Nat → Option (List V)} {st st' : St} (hn : st'.n = st.n) (hu : st'.u = st.u) (ht : ∀ i, Wk st'.b st'.u (st.t i) (st'.t i))
  (hb : ∀ b, (st.b b = none ∧ st'.b b = none) ∨ ∃ k k', st.b b = some k ∧ st'.b b = some k' ∧ k'.size = k.size ∧ k'.excl = k.excl ∧ RowsRel (fun c c' => Wk st'.b st'.u c c' ∧ (c'.isOwn = true → c' = c ∨ c = .nilsl)) k.rows k'.rows) : Gst G st st' := fun γ tmps w h => by
 have bl : BsLe γ st.b st.u γ st'.b st'.u := by
  refine ⟨fun b x => by rw [hu]; exact x, fun b _ hbn => ?_, fun b k hk => ⟨by rw [hu]; exact h.u b k hk, ?_⟩⟩
  ·rcases hb b with ⟨_, h2⟩ | ⟨k, k', h1, _⟩
   ·exact h2
   ·rw [h1] at hbn; simp at hbn
  ·rcases hb b with ⟨h1, _⟩ | ⟨k0, k', h1, h2, h3, _, h5⟩
   ·rw [h1] at hk; simp at hk
   ·rw [h1] at hk; simp only [Option.some.injEq] at hk; subst hk
    exact .inr ⟨k', h2, h3, fun _ => h5.1, rfl⟩
 refine ⟨γ, ⟨by rw [hn]; exact h.n, fun i => ht i _ _ _ ((h.t i).mono (.refl _ _) bl), fun b k hk => ?_, fun b k hk => ?_, h.g, h.o⟩, .refl γ w, bl.pin⟩
 ·rcases hb b with ⟨_, h2⟩ | ⟨k0, k', h1, h2, h3, h4, h5⟩
  ·rw [h2] at hk; simp at hk
  rw [h2] at hk; simp only [Option.some.injEq] at hk; subst hk
  rcases h.b b k0 h1 with ⟨z0, z1⟩ | hm | ⟨hM, B, o, cs, e, a1, a2, a3, a4, a5, a6, a7, a8⟩
  ·refine .inl ⟨z0, List.length_eq_zero_iff.1 ?_⟩
   rw [h5.1, z1]; rfl
  ·have hw : ∀ r, r ∈ k0.rows → r.length = mwd k0.size := by obtain ⟨_, _, _, _, _, _, _, _, q, _⟩ := hm; exact q
   refine .inr (.inl (hm.keep rfl (fun B _ hB => ⟨hB, rfl⟩) h3 h5.1 (h5.sizes hw) fun i c' hc => ?_))
   obtain ⟨c, c1, c2, c3⟩ := h5.flat hw hc
   exact ⟨c, c1, fun v hv => c2 _ _ _ (hv.mono (.refl _ _) bl)⟩
  refine .inr (.inr ⟨by rw [h3]; exact hM, B, o, cs, e, a1, a2, a3, by rw [h3]; exact h5.sizes a4, by rw [h3, h5.1]; exact a5, fun i c' hc => ?_, fun hx => a7 (by rw [← h4]; exact hx), by rw [h3, h5.1]; exact a8⟩)
  obtain ⟨c, c1, c2, c3⟩ := h5.flat a4 hc
  obtain ⟨v, v1, v2, v3, v4⟩ := a6 i c c1
  refine ⟨v, v1, c2 _ _ _ (v2.mono (.refl _ _) bl), v3, ?_⟩
  rw [h3]
  cases ho : c'.isOwn with
  | false => exact .of_not_own ho
  | true =>
   rcases c3 ho with e | e
   ·rw [e]; exact v4
   ·subst e
    have := v2.nilsl_inv; subst this
    unfold Right; cases c' <;> simp
 ·rw [hu]
  rcases hb b with ⟨_, h2⟩ | ⟨k0, k', h1, h2, _⟩
  ·rw [h2] at hk; simp at hk
  ·exact h.u b k0 h1
theorem Gst.addB {G : Nat → Option (List V)} {st : St} {d : Nat} (size : Nat) (hu : st.u d = false) : Gst G st (st.setB d ⟨size, true, []⟩) := fun γ tmps w hs => by
 obtain ⟨γ', h1, h2, h3⟩ := hs.virt (size := size) hu
 exact ⟨γ', h1, h2, h3.pin⟩
def renF (a b : Nat) : Nat → Nat := fun c => if c = a then b else c
def St.renm (st : St) (a b : Nat) : St where
 n := st.n
 t := fun i => renV (renF a b) (st.t i)
 b := fun c => if c = b then (st.b a).map (Blk.ren (renF a b)) else if c = a then none else (st.b c).map (Blk.ren (renF a b))
 u := fun c => if c = b then true else st.u c
theorem Gst.renm {G : Nat → Option (List V)} {st : St} {a b : Nat} (hab : a ≠ b) (hub : st.u b = false) : Gst G st (st.renm a b) := fun γ tmps w h => by
 let f := renF a b
 let γ' : Gh := { loc := fun c => if c = b then γ.loc a else γ.loc c, own := fun B => match γ.own B with
  | some (.blk x) => some (.blk (f x))
  | some (.nest x i j) => some (.nest (f x) i j)
  | none => none, lim := γ.lim }
 have hbn : st.b b = none := by
  cases hb : st.b b with
  | none => rfl
  | some k => rw [h.u b k hb] at hub; simp at hub
 have g : Grow γ w γ' w := ⟨rfl, rfl, rfl, Nat.le_refl _, fun _ _ _ _ h => h, fun _ _ => Nat.le_refl _, fun B _ ho => ⟨rfl, by simp only [γ', ho], rfl⟩, fun _ cs _ _ h => ⟨cs, h, rfl⟩⟩
 have tr : ∀ c, Tr γ st.b st.u γ' (st.renm a b).b (st.renm a b).u f c := fun c => by
  refine ⟨fun k hk => ?_, fun hn hu => ?_⟩
  ·have hcb : c ≠ b := fun e => by subst e; rw [hbn] at hk; simp at hk
   by_cases hca : c = a
   ·subst hca
    refine ⟨k.ren f, by simp [St.renm, f, renF, hk], rfl, by simp [Blk.ren], by simp [γ', f, renF]⟩
   ·refine ⟨k.ren f, by simp [St.renm, f, renF, hca, hcb, hk], rfl, by simp [Blk.ren], by simp [γ', f, renF, hca, hcb]⟩
  ·by_cases hca : c = a
   ·subst hca
    simp [St.renm, f, renF, hn]
   ·by_cases hcb : c = b
    ·subst hcb; rw [hub] at hu; simp at hu
    ·simp [St.renm, f, renF, hca, hcb, hn, hu]
 have tmp : ∀ i, Rep γ' w (st.renm a b).b (st.renm a b).u (renV f (st.t i)) (tmps.getD i undef) := fun i =>
  Rep.ren (γ1 := γ) (γ2 := γ') (w := w) (w' := w) (bs1 := st.b) (u1 := st.u) (s := f) (fun B o v h1 h2 => ⟨h1, h2⟩) (fun _ _ h => h) (h.t i) (fun b _ => tr b)
 refine ⟨γ', ⟨h.n, tmp, fun c k hk => ?_, fun c k hk => ?_, h.g.grow g, fun B x hx => ?_⟩, g, fun c hc => ?_⟩
 ·have ob : ∀ x B, γ.own B = some (.blk x) → γ'.own B = some (.blk (f x)) := fun x B hB => by simp only [γ', hB]
  have on : ∀ x B i j, γ.own B = some (.nest x i j) → γ'.own B = some (.nest (f x) i j) := fun x B i j hB => by simp only [γ', hB]
  simp only [St.renm] at hk
  by_cases hcb : c = b
  ·subst hcb
   rw [if_pos rfl] at hk
   obtain ⟨k0, h0, rfl⟩ := Option.map_eq_some_iff.1 hk
   have := (h.b a k0 h0).ren (γ2 := γ') (bs2 := (st.renm a c).b) (u2 := (st.renm a c).u) (s := f) (by simp [γ', f, renF]) (fun _ => rfl) (fun B hB => ob a B hB) (fun B i j hB => on a B i j hB) (fun b' _ => tr b')
   have e : f a = c := by simp [f, renF]
   rw [e] at this
   exact this
  ·rw [if_neg hcb] at hk
   by_cases hca : c = a
   ·rw [if_pos hca] at hk; simp at hk
   ·rw [if_neg hca] at hk
    obtain ⟨k0, h0, rfl⟩ := Option.map_eq_some_iff.1 hk
    have e : f c = c := by simp [f, renF, hca]
    have := (h.b c k0 h0).ren (γ2 := γ') (bs2 := (st.renm a b).b) (u2 := (st.renm a b).u) (s := f) (by rw [e]; simp [γ', hcb]) (fun _ => rfl) (fun B hB => ob c B hB) (fun B i j hB => on c B i j hB) (fun b' _ => tr b')
    rw [e] at this
    exact this
 ·simp only [St.renm] at hk ⊢
  split
  ·rfl
  ·rename_i hcb
   rw [if_neg hcb] at hk
   split at hk
   ·simp at hk
   ·obtain ⟨k0, h0, _⟩ := Option.map_eq_some_iff.1 hk
    exact h.u c k0 h0
 ·simp only [γ'] at hx
  cases ho : γ.own B with
  | none => rw [ho] at hx; simp at hx
  | some y => exact h.o B y ho
 ·refine ⟨fun hu => ?_, fun hu hn => ?_, fun k hk => ?_⟩
  ·simp only [St.renm]; split; rfl; exact hu
  ·have hcb : c ≠ b := fun e => by subst e; rw [hub] at hu; simp at hu
   simp only [St.renm, if_neg hcb]
   split
   ·rfl
   ·rw [hn]; rfl
  ·have hcb : c ≠ b := fun e => by subst e; rw [hbn] at hk; simp at hk
   refine ⟨by simp only [St.renm, if_neg hcb]; exact h.u c k hk, ?_⟩
   by_cases hca : c = a
   ·exact .inl (by simp [St.renm, hca, hab])
   ·exact .inr ⟨k.ren f, by simp [St.renm, hcb, hca, hk, f], rfl, by simp [Blk.ren], by simp [γ', hcb]⟩
def St.shr (st : St) (b : Nat) (g : V → V) : St where
 n := st.n
 t := fun i => g (st.t i)
 b := fun c => if c = b then none else (st.b c).map fun k => { k with rows := k.rows.map (·.map g) }
 u := fun c => if c = b then true else st.u c
def ShGood (st : St) (b : Nat) (k : Blk) (g : V → V) (c : V) : Prop :=
 ∀ (γ γ' : Gh) (w : World) (bs' : Nat → Option Blk) (u' : Nat → Bool), bs' b = none → u' b = true → (∀ c v, Rep γ w st.b st.u c v → Rep γ' w bs' u' (shV b k c) v) → ∀ v, Rep γ w st.b st.u c v → Rep γ' w bs' u' (g c) v
theorem Gst.shr {G : Nat → Option (List V)} {st : St} {b : Nat} {k : Blk} (hb : st.b b = some k) (hd : ∀ r, r ∈ k.rows → ∀ c, c ∈ r → dcell c = true) {g : V → V}
  (hgt : ∀ i, ShGood st b k g (st.t i)) (hgb : ∀ x q, x ≠ b → st.b x = some q → ∀ r, r ∈ q.rows → ∀ c, c ∈ r → ShGood st b k g c) (hown : ∀ c, (g c).isOwn = true → g c = c) : Gst G st (st.shr b g) := fun γ tmps w h => by
 obtain ⟨γ', h1, h2, h3, hloc, h4⟩ := h.shareL hb hd
 have bl : BsLe γ' (st.delB b).b (st.delB b).u γ' (st.shr b g).b (st.shr b g).u := by
  refine ⟨fun c hc => hc, fun c hc hn => ?_, fun c q hq => ⟨h1.u c q hq, ?_⟩⟩
  ·simp only [St.delB, St.shr] at hn ⊢
   split
   ·rfl
   ·rename_i hcb; rw [if_neg hcb] at hn; rw [hn]; rfl
  ·simp only [St.delB] at hq
   split at hq
   ·simp at hq
   ·rename_i hcb
    exact .inr ⟨{ q with rows := q.rows.map (·.map g) }, by simp [St.shr, hcb, hq], rfl, by simp, rfl⟩
 have map : ∀ c v, Rep γ w st.b st.u c v → Rep γ' w (st.shr b g).b (st.shr b g).u (shV b k c) v := fun c v hr => (h4 c v hr).mono (.refl _ _) bl
 have key : ∀ c v, ShGood st b k g c → Rep γ w st.b st.u c v → Rep γ' w (st.shr b g).b (st.shr b g).u (g c) v := fun c v hc hr =>
  hc γ γ' w _ _ (by simp [St.shr]) (by simp [St.shr]) map v hr
 refine ⟨γ', ⟨h.n, fun i => key _ _ (hgt i) (h.t i), fun c q hq => ?_, fun c q hq => ?_, h1.g, h1.o⟩, h2, h3.trans bl.pin⟩
 ·simp only [St.shr] at hq
  split at hq
  ·simp at hq
  rename_i hcb
  obtain ⟨q0, hq0, rfl⟩ := Option.map_eq_some_iff.1 hq
  have hq1 : (st.delB b).b c = some q0 := by simp [St.delB, hcb, hq0]
  rcases h1.b c q0 hq1 with ⟨z0, z1⟩ | hm | ⟨hM, B, o, cs, e, a1, a2, a3, a4, a5, a6, a7, a8⟩
  ·exact .inl ⟨z0, by simp [z1]⟩
  ·obtain ⟨hM, B, es, clock, g1, g2, g3, g4, g5, g6, g7⟩ := hm
   refine .inr (.inl ⟨hM, B, es, clock, g1, g2, g3, by simpa using g4, fun r hr => ?_, g6, fun i c' hc' => ?_⟩)
   ·obtain ⟨r0, hr0, rfl⟩ := List.mem_map.1 hr
    simpa using g5 r0 hr0
   ·have hfl : (q0.rows.map (·.map g)).flatten = q0.rows.flatten.map g := by rw [List.map_flatten]
    simp only at hc'
    rw [hfl, List.getElem?_map, Option.map_eq_some_iff] at hc'
    obtain ⟨c0, k1, rfl⟩ := hc'
    obtain ⟨v, v1, v2, v3⟩ := g7 i c0 k1
    have old : Rep γ w st.b st.u c0 v := by
     rcases h.b c q0 hq0 with ⟨z0, z1⟩ | hm2 | hb2
     ·rw [z1] at k1; simp at k1
     ·obtain ⟨_, B2, es2, clock2, b1, b2, b3, b4, _, b6, b7⟩ := hm2
      obtain ⟨x, x1, x2, x3⟩ := b7 i c0 k1
      rw [hloc, b1] at g1
      simp only [Option.some.injEq, Prod.mk.injEq, and_true] at g1
      subst g1
      rw [g3] at b3
      simp only [Option.some.injEq, Obj.map.injEq] at b3
      obtain ⟨rfl, rfl⟩ := b3
      rw [v1] at x1
      simp only [Option.some.injEq] at x1
      subst x1; exact x2
     ·exact absurd hb2.1 (Nat.not_lt_of_le hM)
    obtain ⟨r0, hr0, hc0⟩ := List.mem_flatten.1 (List.mem_of_getElem? k1)
    exact ⟨v, v1, key c0 v (hgb c q0 hcb hq0 r0 hr0 c0 hc0) old, v3⟩
  have hsz : ∀ r, r ∈ q0.rows.map (·.map g) → r.length = q0.size := fun r hr => by
   obtain ⟨r0, hr0, rfl⟩ := List.mem_map.1 hr
   simpa using a4 r0 hr0
  refine .inr (.inr ⟨hM, B, o, cs, e, a1, a2, a3, hsz, by simpa using a5, fun i c' hc' => ?_, a7, by simpa using a8⟩)
  have hfl : (q0.rows.map (·.map g)).flatten = q0.rows.flatten.map g := by rw [List.map_flatten]
  simp only at hc'
  rw [hfl, List.getElem?_map, Option.map_eq_some_iff] at hc'
  obtain ⟨c0, k1, rfl⟩ := hc'
  obtain ⟨v, v1, v2, v3, v4⟩ := a6 i c0 k1

  have old : Rep γ w st.b st.u c0 v := by
   rcases h.b c q0 hq0 with ⟨z0, z1⟩ | hm | ⟨_, B2, o2, cs2, e2, b1, b2, b3, _, _, b6, _⟩
   ·rw [z1] at k1; simp at k1
   ·exact (hm.small hM).elim
   ·obtain ⟨x, x1, x2, _⟩ := b6 i c0 k1
    rw [hloc, b1] at a1
    simp only [Option.some.injEq, Prod.mk.injEq] at a1
    obtain ⟨rfl, rfl⟩ := a1
    rw [a3] at b3
    simp only [Option.some.injEq, Obj.cells.injEq] at b3
    obtain ⟨rfl, rfl, _⟩ := b3
    rw [v1] at x1
    simp only [Option.some.injEq] at x1
    subst x1; exact x2
  obtain ⟨r0, hr0, hc0⟩ := List.mem_flatten.1 (List.mem_of_getElem? k1)
  refine ⟨v, v1, key c0 v (hgb c q0 hcb hq0 r0 hr0 c0 hc0) old, v3, ?_⟩
  show Right γ' w (.nest c (i / q0.size) (i % q0.size)) (g c0) v
  cases ho : (g c0).isOwn with
  | false => exact .of_not_own ho
  | true => rw [hown c0 ho]; exact v4
 ·simp only [St.shr] at hq ⊢
  split
  ·rfl
  ·rename_i hcb
   rw [if_neg hcb] at hq
   obtain ⟨q0, hq0, _⟩ := Option.map_eq_some_iff.1 hq
   exact h.u c q0 hq0
def cutV (b k : Nat) : Nat → V → V
 | 0, _ => .undef
 | n + 1, c => match c with
  | .ref b' off len => match b' == b with
   | true => match Nat.ble k off with
    | true => .ref b' (off - k) len
    | false => .undef
   | false => .ref b' off len
  | .ptr b' i o => match b' == b with
   | true => .undef
   | false => .ptr b' i o
  | .mp b' => match b' == b with
   | true => .undef
   | false => .mp b'
  | .fn f x y => .fn f (x.map (cutV b k n)) (y.map (cutV b k n))
  | .agg l => .agg (l.map (cutV b k n))
  | .tup l => .tup (l.map (cutV b k n))
  | c => c
theorem cutV_rep {γ γ' : Gh} {w : World} {bs bs' : Nat → Option Blk} {u u' : Nat → Bool} {b k : Nat} {q q' : Blk} (hb : bs b = some q) (hb' : bs' b = some q') (hz : q'.size = q.size) (hl : q'.rows.length = q.rows.length - k)
  (hlim : γ'.lim = γ.lim) (hloc : ∀ B o, γ.loc b = some (B, o) → γ'.loc b = some (B, o + k * q.size))
  (hoth : ∀ c, c ≠ b → (bs c = none ∧ bs' c = none ∧ (u c = true → u' c = true)) ∨ ∃ x x', bs c = some x ∧ bs' c = some x' ∧ x'.size = x.size ∧ x'.rows.length = x.rows.length ∧ γ'.loc c = γ.loc c) :
  ∀ (n : Nat) (c : V) (v : Value), Rep γ w bs u c v → Rep γ' w bs' u' (cutV b k n c) v
 | 0, _, v, _ => .undef v
 | n + 1, c, v, h => by
  have ih := cutV_rep (w := w) (u := u) (u' := u') hb hb' hz hl hlim hloc hoth n
  have dat : ∀ {c : V}, RepD γ.lim w c v → Rep γ' w bs' u' c v := fun h => .data (by rw [hlim]; exact h)
  cases c with
  | ref b' off len =>
   simp only [cutV]
   by_cases e : b' = b
   ·subst e
    simp only [beq_self_eq_true]
    cases hk : Nat.ble k off with
    | false => exact .undef v
    | true =>
     have hk' : k ≤ off := Nat.le_of_ble_eq_true hk
     simp only
     cases h with
     | data h => cases h
     | ref _ _ _ B o cap x a1 a2 a3 a4 a5 a6 a7 =>
      rw [hb] at a1; simp only [Option.some.injEq] at a1; subst a1
      have e1 : o + off * q.size = o + k * q.size + (off - k) * q'.size := by
       rw [hz, Nat.add_assoc, ← Nat.add_mul, show k + (off - k) = off by omega]
      rw [e1]
      refine .ref b' (off - k) len B (o + k * q.size) cap q' hb' (hloc _ _ a2) (by rw [hl]; omega) a4 ?_ (by rw [hz]; exact a6) (by omega)
      have e2 : o + k * q.size + (off - k + cap) * q'.size = o + (off + cap) * q.size := by
       rw [hz, Nat.add_assoc, ← Nat.add_mul, show k + (off - k + cap) = off + cap by omega]
      rw [e2]; exact a5
     | refE _ _ B x a1 a6 a2 =>
      rw [hb] at a1; simp only [Option.some.injEq] at a1; subst a1
      exact .refE b' (off - k) B q' hb' (by rw [hz]; exact a6) (by omega)
     | refN _ _ x a1 a6 a2 =>
      rw [hb] at a1; simp only [Option.some.injEq] at a1; subst a1
      exact .refN b' (off - k) q' hb' (by rw [hz]; exact a6) (by omega)
     | deadRef _ _ _ _ a1 a2 a3 => rw [hb] at a1; simp at a1
   ·have : (b' == b) = false := by simpa using e
    rw [this]
    simp only
    rcases hoth b' e with ⟨n1, n2, n3⟩ | ⟨x, x', n1, n2, n3, n4, n5⟩
    ·cases h with
     | data h => cases h
     | ref _ _ _ B o cap y a1 => rw [n1] at a1; simp at a1
     | refE _ _ B y a1 => rw [n1] at a1; simp at a1
     | refN _ _ y a1 => rw [n1] at a1; simp at a1
     | deadRef _ _ _ _ a1 a2 a3 => exact .deadRef b' off len v n2 (n3 a2) a3
    ·cases h with
     | data h => cases h
     | ref _ _ _ B o cap y a1 a2 a3 a4 a5 a6 a7 =>
      rw [n1] at a1; simp only [Option.some.injEq] at a1; subst a1
      rw [← n3] at a5 ⊢
      exact .ref b' off len B o cap x' n2 (by rw [n5]; exact a2) (by rw [n4]; exact a3) a4 a5 (by rw [n3]; exact a6) (by omega)
     | refE _ _ B y a1 a6 a2 =>
      rw [n1] at a1; simp only [Option.some.injEq] at a1; subst a1
      exact .refE b' off B x' n2 (by rw [n3]; exact a6) (by rw [n4]; exact a2)
     | refN _ _ y a1 a6 a2 =>
      rw [n1] at a1; simp only [Option.some.injEq] at a1; subst a1
      exact .refN b' off x' n2 (by rw [n3]; exact a6) (by rw [n4]; exact a2)
     | deadRef _ _ _ _ a1 a2 a3 => rw [n1] at a1; simp at a1
  | ptr b' i o' =>
   simp only [cutV]
   by_cases e : b' = b
   ·subst e
    simp only [beq_self_eq_true]
    exact .undef v
   ·have : (b' == b) = false := by simpa using e
    rw [this]
    simp only
    rcases hoth b' e with ⟨n1, n2, n3⟩ | ⟨x, x', n1, n2, n3, n4, n5⟩
    ·cases h with
     | data h => cases h
     | ptr _ _ _ B o y a1 => rw [n1] at a1; simp at a1
     | deadPtr _ _ _ _ a1 a2 a3 => exact .deadPtr b' i o' v n2 (n3 a2) a3
    ·cases h with
     | data h => cases h
     | ptr _ _ _ B o y a1 a2 a3 =>
      rw [n1] at a1; simp only [Option.some.injEq] at a1; subst a1
      rw [← n3]
      exact .ptr b' i o' B o x' n2 (by rw [n5]; exact a2) (by rw [n3]; exact a3)
     | deadPtr _ _ _ _ a1 a2 a3 => rw [n1] at a1; simp at a1
  | mp b' =>
   simp only [cutV]
   by_cases e : b' = b
   ·subst e
    simp only [beq_self_eq_true]
    exact .undef v
   ·have : (b' == b) = false := by simpa using e
    rw [this]
    simp only
    rcases hoth b' e with ⟨n1, n2, n3⟩ | ⟨x, x', n1, n2, n3, n4, n5⟩
    ·cases h with
     | data h => cases h
     | mp _ B y a1 => rw [n1] at a1; simp at a1
     | deadMp _ _ a1 a2 a3 => exact .deadMp b' v n2 (n3 a2) a3
    ·cases h with
     | data h => cases h
     | mp _ B y a1 a2 a3 =>
      rw [n1] at a1; simp only [Option.some.injEq] at a1; subst a1
      exact .mp b' B x' n2 (by rw [n5]; exact a2) (by rw [n3]; exact a3)
     | deadMp _ _ a1 a2 a3 => rw [n1] at a1; simp at a1
  | fn f x y =>
   simp only [cutV]
   obtain ⟨fs, cs, hv, h1, h2, h3, h4⟩ := h.fn_inv
   subst hv
   refine .fn f _ _ fs cs (by simpa using h1) (by simpa using h2) (fun i c v hc hv => ?_) (fun i c v hc hv => ?_)
   ·rw [List.getElem?_map, Option.map_eq_some_iff] at hc
    obtain ⟨c0, k1, rfl⟩ := hc
    exact ih c0 v (h3 i c0 v k1 hv)
   ·rw [List.getElem?_map, Option.map_eq_some_iff] at hc
    obtain ⟨c0, k1, rfl⟩ := hc
    exact ih c0 v (h4 i c0 v k1 hv)
  | agg l =>
   simp only [cutV]
   obtain ⟨vs, rfl, h1, h2⟩ := h.agg_inv
   refine .agg _ vs (by simpa using h1) fun i c v hc hv => ?_
   rw [List.getElem?_map, Option.map_eq_some_iff] at hc
   obtain ⟨c0, k1, rfl⟩ := hc
   exact ih c0 v (h2 i c0 v k1 hv)
  | tup l =>
   simp only [cutV]
   obtain ⟨vs, rfl, h1, h2⟩ := h.tup_inv
   refine .tup _ vs (by simpa using h1) fun i c v hc hv => ?_
   rw [List.getElem?_map, Option.map_eq_some_iff] at hc
   obtain ⟨c0, k1, rfl⟩ := hc
   exact ih c0 v (h2 i c0 v k1 hv)
  | undef => exact .undef v
  | _ =>
   simp only [cutV]
   cases h with
   | data h => exact dat h
theorem cutV_dcell {b k n : Nat} {c : V} (h : dcell c = true) : cutV b k (n + 1) c = c := by
 cases c <;> simp [dcell, cutV] at h ⊢
 obtain ⟨h1, h2⟩ := h
 subst h1; subst h2; simp
def St.cut (st : St) (b k : Nat) (q : Blk) (g : V → V) : St where
 n := st.n
 t := fun i => g (st.t i)
 b := fun c => if c = b then some { q with rows := q.rows.drop k } else (st.b c).map fun x => { x with rows := x.rows.map (·.map g) }
 u := st.u
theorem Gst.cut {G : Nat → Option (List V)} {st : St} {b k n : Nat} {q : Blk} (hb : st.b b = some q) (hzq : q.size < MAPS) (hk : k ≤ q.rows.length) (hlow : b < 1000000) (hown : ∀ r, r ∈ q.rows → ∀ c, c ∈ r → dcell c = true ∧ c.isOwn = false) {g : V → V}
  (hg : ∀ i, g (st.t i) = cutV b k n (st.t i)) (hgb : ∀ x p, x ≠ b → st.b x = some p → ∀ r, r ∈ p.rows → ∀ c, c ∈ r → (g c = cutV b k n c ∨ (g c = c ∧ dcell c = true))) (hgo : ∀ c, (g c).isOwn = true → g c = c) : Gst G st (st.cut b k q g) := fun γ tmps w h => by
 let γ' : Gh := { loc := fun c => if c = b then (γ.loc b).map fun p => (p.1, p.2 + k * q.size) else γ.loc c, own := γ.own, lim := γ.lim }
 have gr : Grow γ w γ' w := ⟨rfl, rfl, rfl, Nat.le_refl _, fun _ _ _ _ h => h, fun _ _ => Nat.le_refl _, fun _ _ h => ⟨rfl, h, rfl⟩, fun _ cs _ _ h => ⟨cs, h, rfl⟩⟩
 have key : ∀ (n : Nat) (c : V) (v : Value), Rep γ w st.b st.u c v → Rep γ' w (st.cut b k q g).b (st.cut b k q g).u (cutV b k n c) v := fun n c v hr =>
  cutV_rep (γ := γ) (γ' := γ') (w := w) (u := st.u) (u' := (st.cut b k q g).u) (q' := { q with rows := q.rows.drop k }) hb (by simp [St.cut]) rfl (by simp) rfl (fun B o ho => by simp [γ', ho]) (fun c hc => by
   cases hs : st.b c with
   | none => exact .inl ⟨rfl, by simp [St.cut, hc, hs], fun h => h⟩
   | some x => exact .inr ⟨x, { x with rows := x.rows.map (·.map g) }, rfl, by simp [St.cut, hc, hs], rfl, by simp, by simp [γ', hc]⟩) n c v hr
 have dkey : ∀ (c : V) (v : Value), dcell c = true → Rep γ w st.b st.u c v → Rep γ' w (st.cut b k q g).b (st.cut b k q g).u c v := fun c v hd hr => by
  have := key 1 c v hr
  rw [cutV_dcell hd] at this; exact this
 refine ⟨γ', ⟨h.n, fun i => ?_, fun c p hp => ?_, fun c p hp => ?_, h.g.grow gr, h.o⟩, gr, fun c hc => ?_⟩
 ·show Rep γ' w _ _ (g (st.t i)) _
  rw [hg]; exact key _ _ _ (h.t i)
 ·by_cases hcb : c = b
  ·subst hcb
   have hp' : p = { q with rows := q.rows.drop k } := by simpa [St.cut] using hp.symm
   subst hp'
   rcases h.b c q hb with ⟨z0, z1⟩ | hm | ⟨hM, B, o, cs, e, a1, a2, a3, a4, a5, a6, a7, a8⟩
   ·exact .inl ⟨by simp [γ', z0], by simp [z1]⟩
   ·exact (hm.small hzq).elim
   have e5 : k * q.size + (q.rows.length - k) * q.size = q.rows.length * q.size := by rw [← Nat.add_mul, show k + (q.rows.length - k) = q.rows.length by omega]
   refine .inr (.inr ⟨hM, B, o + k * q.size, cs, e, by simp [γ', a1], a2, a3, fun r hr => a4 r (List.mem_of_mem_drop hr), ?_, fun i d hd => ?_, a7, ?_⟩)
   ·simp only [List.length_drop]; omega
   ·have hfl : q.rows.flatten[k * q.size + i]? = some d := by
     have e1 : q.rows.flatten = (q.rows.take k).flatten ++ (q.rows.drop k).flatten := by rw [← List.flatten_append, List.take_append_drop]
     have e2 : (q.rows.take k).flatten.length = k * q.size := by
      rw [List.length_flatten]
      have : (q.rows.take k).map List.length = List.replicate k q.size := by
       rw [List.eq_replicate_iff]
       refine ⟨by simp; omega, fun x hx => ?_⟩
       obtain ⟨r, hr, rfl⟩ := List.mem_map.1 hx
       exact a4 r (List.mem_of_mem_take hr)
      rw [this]; simp
     rw [e1, List.getElem?_append_right (by omega), e2, show k * q.size + i - k * q.size = i by omega]
     exact hd
    obtain ⟨v, v1, v2, v3, v4⟩ := a6 _ d hfl
    obtain ⟨r, hr1, hr2⟩ := List.mem_flatten.1 (List.mem_of_getElem? hfl)
    obtain ⟨d1, d2⟩ := hown r hr1 d hr2
    exact ⟨v, by rw [Nat.add_assoc]; exact v1, dkey d v d1 v2, v3, .of_not_own d2⟩
   ·show γ.lim B ≤ _
    simp only [List.length_drop]; omega
  ·have hp' : (st.b c).map (fun x => ({ x with rows := x.rows.map (·.map g) } : Blk)) = some p := by simpa [St.cut, hcb] using hp
   obtain ⟨x, hx, rfl⟩ := Option.map_eq_some_iff.1 hp'
   rcases h.b c x hx with ⟨z0, z1⟩ | hm | ⟨hM, B, o, cs, e, a1, a2, a3, a4, a5, a6, a7, a8⟩
   ·exact .inl ⟨by simp [γ', hcb, z0], by simp [z1]⟩
   ·refine .inr (.inl (hm.keep (by simp [γ', hcb]) (fun B _ hB => ⟨hB, rfl⟩) rfl (by simp) (fun r hr => ?_) fun i d hd => ?_))
    ·obtain ⟨r0, hr0, rfl⟩ := List.mem_map.1 hr
     obtain ⟨_, _, _, _, _, _, _, _, q5, _⟩ := hm
     simpa using q5 r0 hr0
    ·have hfl : (x.rows.map (·.map g)).flatten = x.rows.flatten.map g := by rw [List.map_flatten]
     simp only at hd
     rw [hfl, List.getElem?_map, Option.map_eq_some_iff] at hd
     obtain ⟨d0, k1, rfl⟩ := hd
     obtain ⟨r, hr1, hr2⟩ := List.mem_flatten.1 (List.mem_of_getElem? k1)
     refine ⟨d0, k1, fun v v2 => ?_⟩
     rcases hgb c x hcb hx r hr1 d0 hr2 with e | ⟨e, e'⟩
     ·rw [e]; exact key _ _ _ v2
     ·rw [e]; exact dkey _ _ e' v2
   refine .inr (.inr ⟨hM, B, o, cs, e, by simp [γ', hcb, a1], a2, a3, fun r hr => ?_, by simpa using a5, fun i d hd => ?_, a7, by simpa using a8⟩)
   ·obtain ⟨r0, hr0, rfl⟩ := List.mem_map.1 hr
    simpa using a4 r0 hr0
   ·have hfl : (x.rows.map (·.map g)).flatten = x.rows.flatten.map g := by rw [List.map_flatten]
    simp only at hd
    rw [hfl, List.getElem?_map, Option.map_eq_some_iff] at hd
    obtain ⟨d0, k1, rfl⟩ := hd
    obtain ⟨v, v1, v2, v3, v4⟩ := a6 i d0 k1
    obtain ⟨r, hr1, hr2⟩ := List.mem_flatten.1 (List.mem_of_getElem? k1)
    have hrep : Rep γ' w (st.cut b k q g).b (st.cut b k q g).u (g d0) v := by
     rcases hgb c x hcb hx r hr1 d0 hr2 with e | ⟨e, e'⟩
     ·rw [e]; exact key _ _ _ v2
     ·rw [e]; exact dkey _ _ e' v2
    refine ⟨v, v1, hrep, v3, ?_⟩
    show Right γ' w (.nest c (i / x.size) (i % x.size)) (g d0) v
    cases ho : (g d0).isOwn with
    | false => exact .of_not_own ho
    | true => rw [hgo d0 ho]; exact v4
 ·by_cases hcb : c = b
  ·subst hcb; exact h.u c q hb
  ·have hp' : (st.b c).map (fun x => ({ x with rows := x.rows.map (·.map g) } : Blk)) = some p := by simpa [St.cut, hcb] using hp
   obtain ⟨x, hx, rfl⟩ := Option.map_eq_some_iff.1 hp'
   exact h.u c x hx
 ·have hcb : c ≠ b := fun e => by have := uPin_le (b := c) (by assumption); omega
  refine ⟨fun h => h, fun hu hn => ?_, fun x hx => ⟨h.u c x hx, .inr ⟨{ x with rows := x.rows.map (·.map g) }, by simp [St.cut, hcb, hx], rfl, by simp, by simp [γ', hcb]⟩⟩⟩
  simp [St.cut, hcb, hn]
end Go.EV
namespace Go.EV
open Go
structure Ty (α : Type) where
 c : α → List V
 d : α → List V
 cd : ∀ x, (c x).all dcell = true
 dd : ∀ x, (d x).all dcell = true
 vw : ∀ look x, mapO (fun v => onlyCell (viewV look 1 v)) (c x) = some (d x)
 st : ∀ x, (d x).map V.strip = d x
def DataRows (rows : List (List V)) : Prop := ∀ r, r ∈ rows → ∀ c, c ∈ r → dcell c = true
theorem Ty.data {α : Type} (t : Ty α) (l : List α) : DataRows (l.map t.c) := fun r hr c hc => by
 obtain ⟨x, _, rfl⟩ := List.mem_map.1 hr
 exact List.all_eq_true.1 (t.cd x) c hc
structure Spec (P : Program) (G : Nat → Option (List V)) (α : Type) where
 f : FuncId
 args : List V
 ins : List (Nat × Blk)
 o : Option α
 res : α → V
 outs : α → List (Nat × Blk)
 dt : List Nat
 dat : ∀ r p, p ∈ outs r → p.1 ∈ dt → DataRows p.2.rows
 ok : ∀ r, o = some r → CallC P G f args (ofL ins) (res r) (ofL (outs r))
structure Ext where
 ex : Exit
 ts : List (Nat × V)
 bs : List (Nat × Blk)
 dt : List Nat
 dat : ∀ p, p ∈ bs → p.1 ∈ dt → DataRows p.2.rows
def Ext.lit (ex : Exit) (ts : List (Nat × V)) (bs : List (Nat × Blk)) : Ext := ⟨ex, ts, bs, [], fun _ _ h => by simp at h⟩
structure BT where
 id : Nat
 k : Blk
 dat : DataRows k.rows
def BT.of {α : Type} (id : Nat) (t : Ty α) (size : Nat) (l : List α) (excl : Bool := true) : BT := ⟨id, ⟨size, excl, l.map t.c⟩, t.data l⟩
theorem bts_dat (tb : List BT) {p : Nat × Blk} (h : p ∈ tb.map fun x => (x.id, x.k)) : DataRows p.2.rows := by
 obtain ⟨x, _, rfl⟩ := List.mem_map.1 h
 exact x.dat
def Ext.of (ex : Exit) (ts : List (Nat × V)) (bs : List (Nat × Blk)) (tb : List BT) (h : (bs.all fun p => !(tb.any fun x => x.id == p.1)) = true) : Ext :=
 ⟨ex, ts, bs ++ tb.map fun x => (x.id, x.k), tb.map (·.id), fun p hp hd => by
  rcases List.mem_append.1 hp with hp | hp
  ·obtain ⟨x, hx, e⟩ := List.mem_map.1 hd
   have := List.all_eq_true.1 h p hp
   simp only [Bool.not_eq_true', List.any_eq_false, beq_iff_eq] at this
   exact absurd e (this x hx)
  ·exact bts_dat tb hp⟩
structure ReW where
 a : List Wr
 b : List Wr
 h : a = b
 dt : List Nat
 dat : ∀ i k, Wr.b i (some k) ∈ b → i ∈ dt → DataRows k.rows
structure VwW : Type 1 where
 b : Nat
 α : Type
 ty : Ty α
 rows : List (List V)
 n : Nat
 l : List α
 w : Bool
 h : rows.take n = l.map ty.c
 hw : w = true → n = rows.length
def VwW.of (b : Nat) {α : Type} (ty : Ty α) (l : List α) : VwW := ⟨b, α, ty, l.map ty.c, l.length, l, true, by rw [← List.length_map (f := ty.c), List.take_length], fun _ => (List.length_map _).symm⟩
def VwW.part (b : Nat) {α : Type} (ty : Ty α) (l : List α) (n : Nat) : VwW := ⟨b, α, ty, l.map ty.c, n, l.take n, false, List.map_take.symm, fun h => by simp at h⟩
def vsOk (vs : List VwW) : Bool := vs.all fun v => v.w || (vs.filter fun x => x.b == v.b).length == 1
inductive GhW : Type 1 where
 | virt (d t size : Nat)
 | virtC (d b j size : Nat)
 | ren (a b : Nat)
 | share (v : VwW) (n : Nat)
 | drop (bs : List Nat)
 | tell (b : Nat) (es : List (List V))
 | len (b m : Nat) (ns : List Nat) (h : ∀ n, n ∈ ns → n = m)
structure Rule (P : Program) (G : Nat → Option (List V)) (β : Type) where
 op : Op
 dst : Option Nat
 vals : List (Operand × V)
 blks : List (Nat × Blk)
 o : Option β
 ws : β → List Wr
 dt : List Nat
 dat : ∀ r i k, Wr.b i (some k) ∈ ws r → i ∈ dt → DataRows k.rows
 ok : ∀ r, o = some r → ∀ (x : Oper) (st : St), x.op = op → x.dst = dst → (∀ p, p ∈ vals → Evs G st p.1 p.2) → (∀ p, p ∈ blks → st.b p.1 = some p.2) →
  (∀ d, dst = some d → d < st.n ∧ st.u d = false) → EffO P G x st (st.app (ws r))
structure Sub (P : Program) (G : Nat → Option (List V)) (ε : Type) where
 c : Code
 n : Nat
 x : Ext
 o : Option ε
 E : ε → Ext
 ok : ∀ r, o = some r → TV P G c (stOf n x.ts x.bs (x.bs.map (·.1))) (fun e s => e = (E r).ex ∧ Gst G s (stOf n (E r).ts (E r).bs ((E r).bs.map (·.1))))
inductive T (P : Program) (G : Nat → Option (List V)) : Type → Type 1 where
 | done {ρ : Type} (r : ρ) : T P G ρ
 | fail {ρ : Type} : T P G ρ
 | br {ρ : Type} (a : Nat) (c : Bool) (x y : T P G ρ) : T P G ρ
 | tt {ρ : Type} (k : T P G ρ) : T P G ρ
 | ff {ρ : Type} (k : T P G ρ) : T P G ρ
 | chk {ρ : Type} (a : Nat) (c : Bool) (k : T P G ρ) : T P G ρ
 | re {ρ : Type} (a : Nat) (w : ReW) (k : T P G ρ) : T P G ρ
 | row {ρ α : Type} (a : Nat) (ty : Ty α) (l : List α) (j : Nat) (c : Bool) (k : α → T P G ρ) : T P G ρ
 | rowt {ρ α : Type} (a : Nat) (ty : Ty α) (l : List α) (j col : Nat) (k : α → T P G ρ) : T P G ρ
 | hrow {ρ α : Type} (a : Nat) (ty : Ty α) (l : List α) (hole : List V) (j : Nat) (k : T P G ρ) : T P G ρ
 | rowg {ρ α β : Type} (a b d : Nat) (ty : Ty α) (l : List α) (j col z : Nat) (ty2 : Ty β) (o : α → List β) (hc : ∀ x, (ty.c x)[col]? = some (.sl true z ((o x).map ty2.c))) (hs : ∀ y, ty2.c y = ty2.d y) (k : α → T P G ρ) : T P G ρ
 | cutg {ρ α : Type} (a b : Nat) (ty : Ty α) (l : List α) (n : Nat) (hs : ∀ y, ty.c y = ty.d y) (k : T P G ρ) : T P G ρ
 | nst {ρ α β : Type} (a : Nat) (ty : Ty α) (l : List α) (hole : List V) (j col : Nat) (y : α) (ty2 : Ty β) (o : List β) (cut : Option Nat) (k : T P G ρ) : T P G ρ
 | appn {ρ α β : Type} (a : Nat) (ty : Ty α) (l : List α) (y : α) (col d2 : Nat) (ty2 : Ty β) (o : List β) (bytes : Nat) (k : T P G ρ) : T P G ρ
 | app {ρ α : Type} (a : Nat) (ty : Ty α) (l x : List α) (bytes : Nat) (fl : Bool) (h : fl = true → ∀ y, ty.c y = ty.d y) (k : T P G ρ) : T P G ρ
 | call {ρ α : Type} (a : Nat) (s : Spec P G α) (Li Lo : List (Nat × Nat)) (k : α → T P G ρ) : T P G ρ
 | call2 {ρ α β : Type} (a : Nat) (s : Spec P G (α ⊕ β)) (Li Lo : List (Nat × Nat)) (k : α → T P G ρ) (k2 : β → T P G ρ) : T P G ρ
 | view {ρ α : Type} (a : Nat) (s : Spec P G α) (vs : List VwW) (k : α → T P G ρ) : T P G ρ
 | cnd {ρ ε : Type} (id : Nat) (ts : List Nat) (first : T P G ε) (E : ε → List V) (k : ε → T P G ρ) : T P G ρ
 | bind {ρ ε : Type} (j : Nat) (first : T P G ε) (E : ε → Ext) (k : ε → T P G ρ) : T P G ρ
 | bind2 {ρ ε ζ : Type} (j : Nat) (first : T P G (ε ⊕ ζ)) (E : ε → Ext) (E2 : ζ → Ext) (k : ε → T P G ρ) (k2 : ζ → T P G ρ) : T P G ρ
 | bind3 {ρ ε ζ η : Type} (j : Nat) (first : T P G (ε ⊕ (ζ ⊕ η))) (E : ε → Ext) (E2 : ζ → Ext) (E3 : η → Ext) (k : ε → T P G ρ) (k2 : ζ → T P G ρ) (k3 : η → T P G ρ) : T P G ρ
 | lp {σ ε : Type} (S : σ → Ext) (body : σ → T P G (σ ⊕ ε)) (x : σ) : T P G ε
 | gh {ρ : Type} (a : Nat) (g : GhW) (k : T P G ρ) : T P G ρ
 | opr {ρ β : Type} (a : Nat) (R : Rule P G β) (k : β → T P G ρ) : T P G ρ
 | sub {ρ ε : Type} (S : Sub P G ε) (k : ε → T P G ρ) : T P G ρ
 | ceq {ρ : Type} (a : Nat) (n : Int) (vs : List Int) (k : Int → T P G ρ) : T P G ρ
def iter {σ ε : Type} (f : σ → Option (σ ⊕ ε)) (n : Nat) : σ → Option ε :=
 Nat.rec (fun _ => none) (fun _ ih x => match f x with
  | none => none
  | some (.inl y) => ih y
  | some (.inr e) => some e) n
def FUEL : Nat := 18446744073709551616
def T.run {P : Program} {G : Nat → Option (List V)} : {ρ : Type} → T P G ρ → Option ρ
 | _, .done r => some r
 | _, .fail => none
 | _, .br _ c x y => bif c then x.run else y.run
 | _, .tt k => k.run
 | _, .ff k => k.run
 | _, .chk _ c k => bif c then k.run else none
 | _, .re _ _ k => k.run
 | _, .row _ _ l j c k => bif c then (match l[j]? with | some x => (k x).run | none => none) else none
 | _, .rowt _ _ l j _ k => match l[j]? with | some x => (k x).run | none => none
 | _, .hrow _ _ l _ j k => match l[j]? with | some _ => k.run | none => none
 | _, .rowg _ _ _ _ l j _ _ _ _ _ _ k => match l[j]? with | some x => (k x).run | none => none
 | _, .cutg _ _ _ l n _ k => bif decide (n ≤ l.length) then k.run else none
 | _, .nst _ _ l _ j _ _ _ o cut k => match l[j]? with | some _ => (match cut with | none => k.run | some n => bif decide (n ≤ o.length) then k.run else none) | none => none
 | _, .appn _ _ l _ _ _ _ _ bytes k => bif decide ((l.length + 1) * bytes ≤ 140737488355328) then k.run else none
 | _, .app _ _ l x bytes _ _ k => bif decide ((l.length + x.length) * bytes ≤ 140737488355328) then k.run else none
 | _, .call _ s _ _ k => match s.o with | some r => (k r).run | none => none
 | _, .call2 _ s _ _ k k2 => match s.o with | some (.inl r) => (k r).run | some (.inr r) => (k2 r).run | none => none
 | _, .view _ s _ k => match s.o with | some r => (k r).run | none => none
 | _, .cnd _ _ first _ k => match first.run with | some e => (k e).run | none => none
 | _, .bind _ first _ k => match first.run with | some e => (k e).run | none => none
 | _, .bind2 _ first _ _ k k2 => match first.run with | some (.inl e) => (k e).run | some (.inr e) => (k2 e).run | none => none
 | _, .bind3 _ first _ _ _ k k2 k3 => match first.run with | some (.inl e) => (k e).run | some (.inr (.inl e)) => (k2 e).run | some (.inr (.inr e)) => (k3 e).run | none => none
 | _, .lp _ body x => iter (fun y => (body y).run) FUEL x
 | _, .gh _ _ k => k.run
 | _, .opr _ R k => match R.o with | some r => (k r).run | none => none
 | _, .sub S k => match S.o with | some r => (k r).run | none => none
 | _, .ceq _ n vs k => bif vs.contains n then (k n).run else none
inductive C : Type 1 where
 | stuck (why : Nat)
 | fail
 | fin (v : Option V) (e : Option Exit) (ts : List (Nat × V)) (bs : List (Nat × Option Blk))
 | fins (ts : List V)
 | br (c : Bool) (x y : C)
 | chk (c : Bool) (k : C)
 | re (w : List Wr) (k : C)
 | row {α : Type} (rows : List (List V)) (j : Nat) (c : Bool) (k : α → C)
 | hrow (rows : List (List V)) (j : Nat) (k : C)
 | nst (rows : List (List V)) (j : Nat) (drows : List (List V)) (off len : Nat) (row : List V) (k : C)
 | appn (rows : List (List V)) (len : Nat) (srows : List (List V)) (bytes : Nat) (drows : List (List V)) (cell : Option V) (k : C)
 | app (rows : List (List V)) (len : Nat) (srows : List (List V)) (bytes : Nat) (fl : Bool) (k : C)
 | call {α : Type} (f : FuncId) (args : List V) (ins : List (Nat × Blk)) (k : α → C)
 | call2 {α β : Type} (f : FuncId) (args : List V) (ins : List (Nat × Blk)) (k : α → C) (k2 : β → C)
 | view {α : Type} (f : FuncId) (args : List V) (eqs : List (Nat × List (List V) × Nat)) (k : α → C)
 | bind {ε : Type} (x : C) (k : ε → C)
 | bind2 {ε ζ : Type} (x : C) (k : ε → C) (k2 : ζ → C)
 | bind3 {ε ζ η : Type} (x : C) (k : ε → C) (k2 : ζ → C) (k3 : η → C)
 | loop {σ : Type} (ts : List (Nat × V)) (bs : List (Nat × Option Blk)) (body : σ → C)
 | gh (eqs : List (Nat × List (List V) × Nat)) (k : C)
 | sub {ε : Type} (c : Code) (n : Nat) (ts : List (Nat × V)) (bs : List (Nat × Option Blk)) (k : ε → C)
 | rule {β : Type} (op : Op) (dst : Option Nat) (vals : List (Option V)) (blks : List (Option Blk)) (k : β → C)
inductive Fin' : Type → Type 1 where
 | fn {ρ : Type} (rs : List ResultVar) (res : ρ → V) (outs : ρ → List (Nat × Blk)) : Fin' ρ
 | mid {ρ : Type} (E : ρ → Ext) : Fin' ρ
 | reg {ρ : Type} (ts : List Nat) (E : ρ → List V) : Fin' ρ
 | rnd {σ ε : Type} (S : σ → Ext) (E : ε → Ext) : Fin' (σ ⊕ ε)
def coeL (f : V → V → V) : List V → List V → List V
 | e :: es, c :: cs => f e c :: coeL f es cs
 | _, cs => cs
def coeV : Nat → V → V → V
 | 0, _, c => c
 | n + 1, e, c => match c with
  | .nilsl => match e with
   | .sl o z _ => .sl o z []
   | _ => .nilsl
  | .sl o z r => match e with
   | .sl false _ _ => .sl false z r
   | _ => .sl o z r
  | .agg cs => match e with
   | .agg es => .agg (coeL (coeV n) es cs)
   | _ => .agg cs
  | .tup cs => match e with
   | .tup es => .tup (coeL (coeV n) es cs)
   | _ => .tup cs
  | c => c
def extFin (e : Exit) (x : Ext) : C := .fin none (some e) x.ts (x.bs.map fun p => (p.1, some p.2))
def VwW.eqn (v : VwW) : Nat × List (List V) × Nat := (v.b, v.rows, v.n)
def GhW.eqs : GhW → List (Nat × List (List V) × Nat)
 | .share v n => List.replicate (n + 1) v.eqn
 | .len b _ ns _ => ns.map fun n => (b, [], n)
 | _ => []
def T.expect {P : Program} {G : Nat → Option (List V)} : {ρ : Type} → Fin' ρ → T P G ρ → C
 | _, F, .done r => match F with
  | .fn _ res outs => .fin (some (res r)) none [] ((outs r).map fun p => (p.1, some p.2))
  | .mid E => extFin (E r).ex (E r)
  | .reg _ E => .fins (E r)
  | .rnd S E => match r with
   | .inl y => extFin (S y).ex (S y)
   | .inr e => extFin (E e).ex (E e)
 | _, _, .fail => .fail
 | _, F, .br _ c x y => .br c (x.expect F) (y.expect F)
 | _, F, .tt k => k.expect F
 | _, F, .ff k => k.expect F
 | _, F, .chk _ c k => .chk c (k.expect F)
 | _, F, .re _ w k => .re w.a (k.expect F)
 | _, F, .row _ ty l j c k => .row (l.map ty.c) j c fun x => (k x).expect F
 | _, F, .rowt _ ty l j _ k => .row (l.map ty.c) j true fun x => (k x).expect F
 | _, F, .hrow _ ty l hole j k => .hrow ((l.map ty.c).set j hole) j (k.expect F)
 | _, F, .rowg _ _ _ ty l j _ _ _ _ _ _ k => .row (l.map ty.c) j true fun x => (k x).expect F
 | _, F, .cutg _ _ ty l n _ k => .hrow (l.map ty.c) n (k.expect F)
 | _, F, .nst _ ty l hole j _ y ty2 o cut k => match cut with
  | none => .nst ((l.map ty.c).set j hole) j (o.map ty2.c) 0 o.length (ty.c y) (k.expect F)
  | some n => .nst ((l.map ty.c).set j hole) j (o.map ty2.c) n (o.length - n) (ty.c y) (k.expect F)
 | _, F, .appn _ ty l y col d2 ty2 o bytes k => .appn (l.map ty.c) l.length [(ty.c y).set col (.ref d2 0 o.length)] bytes (o.map ty2.c) ((ty.c y)[col]?) (k.expect F)
 | _, F, .app _ ty l x bytes fl _ k => .app (l.map ty.c) l.length (x.map ty.c) bytes fl (k.expect F)
 | _, F, .call _ s _ _ k => .call s.f s.args s.ins fun r => (k r).expect F
 | _, F, .call2 _ s _ _ k k2 => .call2 s.f s.args s.ins (fun r => (k r).expect F) fun r => (k2 r).expect F
 | _, F, .view _ s vs k => .view s.f s.args (vs.map VwW.eqn) fun r => (k r).expect F
 | _, F, .cnd _ ts first E k => .bind (first.expect (.reg ts E)) fun e => (k e).expect F
 | _, F, .bind _ first E k => .bind (first.expect (.mid E)) fun e => (k e).expect F
 | _, F, .bind2 _ first E E2 k k2 => .bind2 (first.expect (.mid (Sum.elim E E2))) (fun e => (k e).expect F) fun e => (k2 e).expect F
 | _, F, .bind3 _ first E E2 E3 k k2 k3 => .bind3 (first.expect (.mid (Sum.elim E (Sum.elim E2 E3)))) (fun e => (k e).expect F) (fun e => (k2 e).expect F) fun e => (k3 e).expect F
 | _, F, .lp S body x => match F with
  | .mid E => .loop (S x).ts ((S x).bs.map fun p => (p.1, some p.2)) fun y => (body y).expect (.rnd S E)
  | _ => .fail
 | _, F, .gh _ g k => .gh g.eqs (k.expect F)
 | _, F, .opr _ R k => .rule R.op R.dst (R.vals.map fun p => some p.2) (R.blks.map fun p => some p.2) fun r => (k r).expect F
 | _, F, .sub S k => .sub S.c S.n S.x.ts (S.x.bs.map fun p => (p.1, some p.2)) fun r => (k r).expect F
 | _, F, .ceq _ n vs k => vs.foldr (fun v r => .br (n == v) ((k v).expect F) r) .fail
end Go.EV
namespace Go.EV
open Go
structure D where
 n : Nat
 ts : List (Nat × V)
 bs : List (Nat × Blk)
 us : List Nat
 sy : List Nat
def D.st (d : D) : St := stOf d.n d.ts d.bs d.us
inductive Kf where
 | seq (y : Code)
 | block (id : Nat)
 | scope
 | lp (c : Code)
mutual
def nrm : Nat → V → (V → C) → C
 | 0, v, k => k v
 | n + 1, v, k => match v with
  | .int a b => k (.int a b)
  | .bool b => k (.bool b)
  | .str s => k (.str s)
  | .nilp => k .nilp
  | .nilf => k .nilf
  | .yld l => k (.yld l)
  | .nilsl => k .nilsl
  | .sl o z r => k (.sl o z r)
  | .snap l => nrmL n l fun l => k (.snap l)
  | .ref b o l => k (.ref b o l)
  | .ptr b i o => k (.ptr b i o)
  | .fn f a c => nrmL n a fun a => nrmL n c fun c => k (.fn f a c)
  | .agg l => nrmL n l fun l => k (.agg l)
  | .tup l => nrmL n l fun l => k (.tup l)
  | .undef => k .undef
  | .mp b => k (.mp b)
def nrmL : Nat → List V → (List V → C) → C
 | 0, l, k => k l
 | n + 1, l, k => match l with
  | [] => k []
  | v :: l => nrm n v fun v => nrmL n l fun l => k (v :: l)
end
def nrmR : List (List V) → (List (List V) → C) → C
 | [], k => k []
 | r :: rs, k => nrmL 1000 r fun r => nrmR rs fun rs => k (r :: rs)
def nrmT : List (Nat × V) → (List (Nat × V) → C) → C
 | [], k => k []
 | (i, v) :: l, k => nrm 1000 v fun v => nrmT l fun l => k ((i, v) :: l)
def nrmB (sy : List Nat) : List (Nat × Blk) → (List (Nat × Blk) → C) → C
 | [], k => k []
 | (i, b) :: l, k => match sy.contains i with
  | true => match b with | ⟨z, x, r⟩ => nrmB sy l fun l => k ((i, ⟨z, x, r⟩) :: l)
  | false => match b with | ⟨z, x, r⟩ => nrmR r fun r => nrmB sy l fun l => k ((i, ⟨z, x, r⟩) :: l)
def wrTs (ws : List Wr) : List Nat := ws.filterMap fun | .t i _ => some i | _ => none
def wrBs (ws : List Wr) : List Nat := ws.filterMap fun | .b i _ => some i | _ => none
def Plan.wts (p : Plan) : List Nat := p.flatMap fun x => wrTs x.2
def Plan.wbs (p : Plan) : List Nat := p.flatMap fun x => wrBs x.2
def binC (op : BinOp) (k : IntKind) (a b : Int) : Option (Bool × V) :=
 match op with
 | .quo => some (!(b == 0), .int k (k.wrap (a.tdiv b)))
 | .rem => some (!(b == 0), .int k (a.tmod b))
 | .shl => some (decide (0 ≤ b), .int k (k.wrap (a * 2 ^ (min b.toNat k.bits))))
 | .shr => some (decide (0 ≤ b), .int k (a.fdiv (2 ^ (min b.toNat k.bits))))
 | _ => none
def loC (lo : Option V) (h : Nat) : Option (Bool × Nat) :=
 match lo with
 | none => some (true, 0)
 | some (.int _ l) => some (decide (0 ≤ l) && decide (l ≤ h), l.toNat)
 | _ => none
def hiC (n : Nat) (hi mx : Option V) : Option (Bool × Nat) :=
 match hi, mx with
 | none, none => some (true, n)
 | some (.int _ h), none => some (decide (0 ≤ h) && decide (h ≤ n), h.toNat)
 | some (.int _ h), some (.int _ m) => some (decide (0 ≤ h) && (decide (h ≤ m) && decide (m ≤ n)), h.toNat)
 | _, _ => none
def cutC (n : Nat) (lo hi mx : Option V) : Option (Bool × Nat × Nat) :=
 match hiC n hi mx with
 | some (c1, h) => match loC lo h with
  | some (c2, l) => some (match hi, mx, lo with | none, none, _ => c2 | _, _, none => c1 | _, _, _ => c1 && c2, l, h)
  | none => none
 | none => none
def sliceC (P : Program) (look : Nat → Option Blk) (t : TypeId) (c : V) (lo hi mx : Option V) : Option (Bool × V) :=
 match P.underlying t with
 | some .string => match c, mx with
  | .str s, none => (cutC s.size lo hi none).map fun x => (x.1, .str (s.extract x.2.1 x.2.2))
  | _, _ => none
 | some (.slice e) => match P.info? e with
  | none => none
  | some ei => match c with
   | .sl _ size rows => if size = ei.size then (cutC rows.length lo hi mx).map fun x => (x.1, .sl false size ((rows.take x.2.2).drop x.2.1)) else none
   | .ref b off len => match look b with
    | some k => if k.size = ei.size ∧ mx.isNone = true then (cutC len lo hi none).map fun x => (x.1, .ref b (match off with | 0 => x.2.1 | o + 1 => o + 1 + x.2.1) (x.2.2 - x.2.1)) else none
    | none => none
   | _ => none
 | _ => none
def readC (P : Program) (e : Operand → Option V) (look : Nat → Option Blk) (op : Op) : Option (Bool × V) :=
 match op with
 | .binOp op _ x y _ => match e x, e y with
  | some (.int k a), some (.int k' b) => match op with
   | .shl | .shr => binC op k a b
   | _ => if k = k' then binC op k a b else none
  | some (.str a), some (.str b) => match op with
   | .add => some (decide (a.size + b.size ≤ 9223372036854775807), .str (a ++ b))
   | _ => none
  | _, _ => none
 | .index t x i => match P.underlying t, e x, e i with
  | some .string, some (.str s), some (.int _ i) => some (decide (0 ≤ i ∧ i < s.size), .int .u8 (s.data.getD i.toNat 0).toNat)
  | _, _, _ => none
 | .indexAddr t x i => match P.underlying t, e x, e i with
  | some (.slice el), some (.ref b off len), some (.int _ n) => match P.info? el with
   | some ei => match look b with
    | some k => if k.size = ei.size then some (decide (0 ≤ n) && decide (n < len), .ptr b (off + n.toNat) 0) else none
    | none => none
   | none => none
  | _, _, _ => none
 | .slice t x lo hi mx => match e x, evO e lo, evO e hi, evO e mx with
  | some c, some l, some h, some m => sliceC P look t c l h m
  | _, _, _, _ => none
 | _ => none
def chkOp (P : Program) (G : Nat → Option (List V)) (ops : Array Oper) (i : Nat) (s : St) : Option (Bool × List Wr) :=
 match opAt ops i s with
 | some o => if dstOk s.n o.dst = true then (readC P (s.evC G o) (s.lookC o []) o.op).map fun x => (x.1, dstW o.dst x.2) else none
 | none => none
def rowOp (P : Program) (G : Nat → Option (List V)) (ops : Array Oper) (i : Nat) (s : St) : Option (List (List V) × Nat × Bool × (List V → Option (List Wr))) :=
 match opAt ops i s with
 | some o => match o.op, o.dst with
  | .indexAddr t x j, some d => if d < s.n then match s.evC G o x, s.evC G o j with
    | some (.sl _ size rows), some (.int _ n) => if sliceSz P t = some size then some (rows, n.toNat, decide (0 ≤ n), fun r => some [.t d (.snap r)]) else none
    | _, _ => none
   else none
  | .load t x, some d => if d < s.n then match s.evC G o x with
    | some (.ptr b r off) => match s.lookC o [] b with
     | some k => some (k.rows, r, true, fun row => (loadCellsV P t (row.drop off)).map fun c => [.t d c])
     | none => none
    | _ => none
   else none
  | .store t x y, none => match s.evC G o x, s.evC G o y with
   | some (.ptr b r off), some c => match s.lookC o [] b with
    | some k => if k.excl = true then some (k.rows, r, true, fun row => (storeRowV P t k.size row off c).map fun r' => [.b b (some ⟨k.size, true, k.rows.set r (coeL (coeV 8) row r')⟩)]) else none
    | none => none
   | _, _ => none
  | _, _ => none
 | none => none
structure AppD where
 d : Nat
 b : Option Nat
 rows : List (List V)
 len : Nat
 excl : Bool
 sb : Option Nat
 srows : List (List V)
 size : Nat
 bytes : Nat
 fl : Bool
def appDst (look : Nat → Option Blk) (size : Nat) (c : V) : Option (Option Nat × List (List V) × Nat × Bool) :=
 match c with
 | .nilsl => some (none, [], 0, true)
 | .ref b 0 len => match look b with
  | some k => if k.size = size then some (some b, k.rows, len, k.excl) else none
  | none => none
 | _ => none
def appSrc (look : Nat → Option Blk) (size : Nat) (dst : Option Nat) (c : V) : Option (Option Nat × List (List V) × Bool) :=
 match c with
 | .nilsl => some (none, [], false)
 | .sl _ z rows => if z = size then some (none, rows, true) else none
 | .ref b 0 len => match look b with
  | some k => if k.size = size ∧ len = k.rows.length ∧ ¬ dst = some b then some (some b, k.rows, false) else none
  | none => none
 | _ => none
def appOp (P : Program) (G : Nat → Option (List V)) (ops : Array Oper) (ex : List Nat) (i : Nat) (s : St) : Option AppD :=
  match opAt ops i s with
  | some o => match o.op, o.dst with
    | .call { callee := .builtin .append, args := as, argTypes := ts }, some d => if d < s.n ∧ s.u d = false then match as.toList, ts.toList with
        | [x, y], [t, t2] => match s.evC G o x, s.evC G o y, P.underlying t, P.underlying t2 with
          | some cx, some cy, some (.slice e), some (.slice _) => match P.info? e with
            | some ei => if 0 < ei.bytes ∧ (zeroV P e).map List.length = some ei.size then match appDst (s.lookC o ex) ei.size cx with
                | some (b, rows, len, excl) => match appSrc (s.lookC o ex) ei.size b cy with
                  | some (sb, srows, fl) => some ⟨d, b, rows, len, excl, sb, srows, ei.size, ei.bytes, fl⟩
                  | none => none
                | none => none
              else none
            | none => none
          | _, _, _, _ => none
        | _, _ => none
      else none
    | _, _ => none
  | none => none
def takeOp (P : Program) (G : Nat → Option (List V)) (ops : Array Oper) (col i : Nat) (s : St) : Option (List (List V) × Nat × (List V → Option (List Wr))) :=
  match opAt ops i s with
  | some o => match o.op, o.dst with
    | .load t x, some d => if d < s.n ∧ s.u d = false then match s.evC G o x with
        | some (.ptr b r off) => match s.lookC o [] b with
          | some k => match isAggT P t with
            | false => some (k.rows, r, fun row => match row[off]? with
              | some (.sl true z rs) => if z < MAPS then some [.b b (some ⟨k.size, k.excl, k.rows.set r (row.set off (.sl false z rs))⟩), .b d (some ⟨z, false, rs.map (·.map V.strip)⟩), .t d (.ref d 0 rs.length)] else none
              | _ => none)
            | true => match P.info? t with
              | some ti => some (k.rows, r, fun row => match row[col]? with
                | some (.sl true z rs) => if off ≤ col ∧ off + ti.size ≤ row.length ∧ (P.underlying t).isSome = true ∧ z < MAPS then
                    some [.b b (some ⟨k.size, k.excl, k.rows.set r (row.set col (.sl false z rs))⟩), .b d (some ⟨z, false, rs.map (·.map V.strip)⟩), .t d (.agg (((row.set col (.ref d 0 rs.length)).drop off).take ti.size))]
                  else none
                | _ => none)
              | none => none
          | none => none
        | _ => none
      else none
    | _, _ => none
  | none => none
def nstOp (P : Program) (G : Nat → Option (List V)) (ops : Array Oper) (hole : List V) (fin : List (List V)) (col i : Nat) (s : St) : Option (Nat × Blk × Nat × Nat × Blk × Nat × Nat × List V) :=
  match opAt ops i s with
  | some o => match o.op, o.dst with
    | .store t x y, none => match s.evC G o x, s.evC G o y with
      | some (.ptr b r off), some c => match s.lookC o [] b with
        | some k => if k.excl = true then match storeRowV P t k.size hole off c with
            | some r' => match r'[col]? with
              | some (.ref d2 off2 len) => match s.lookC o [] d2 with
                | some kd => if b = d2 ∨ MAPS ≤ k.size then none else some (b, k, r, d2, kd, off2, len, r'.set col (.sl true kd.size fin))
                | none => none
              | _ => none
            | none => none
          else none
        | none => none
      | _, _ => none
    | _, _ => none
  | none => none
def renB (sy : List Nat) (b : Nat) (f : Nat → Nat) (k : Blk) : Blk := match sy.contains b with
 | true => k
 | false => k.ren f
def anyL (L : List (Nat × Nat)) (b : Nat) : Bool := L.any fun x => x.2 == b
def anyC (L : List (Nat × Nat)) (b : Nat) : Bool := L.any fun x => x.1 == b
def callOp (P : Program) (G : Nat → Option (List V)) (ops : Array Oper) (Li Lo : List (Nat × Nat)) (sy : List Nat) (i : Nat) (s : St) : Option (Option Nat × FuncId × List V × List (Nat × Blk)) :=
 match callG P G ops ((Li ++ Lo).map (·.2)) Li Lo [] i s with
 | some (dst, f, as, bl, _) =>
  if (idsOk Li Lo [] && bl.all fun x => sy.contains (toCaller (Li ++ Lo) x.1) || (refsL x.2.rows.flatten).all (anyL Li)) = true then
   some (dst, f, as, bl.map fun x => (x.1, renB sy (toCaller (Li ++ Lo) x.1) (toCallee (Li ++ Lo)) x.2))
  else none
 | none => none
def outsOk (L : List (Nat × Nat)) (dt : List Nat) (O : List (Nat × Blk)) (res : V) : Bool :=
 (O.all fun x => anyC L x.1 && (dt.contains x.1 || (refsL x.2.rows.flatten).all (anyC L))) && (refsV res).all (anyC L)
def callWs (L : List (Nat × Nat)) (dt : List Nat) (O : List (Nat × Blk)) (dst : Option Nat) (res : V) : List Wr :=
 (L.map fun x => Wr.b x.2 ((ofL O x.1).map (renB dt x.1 (toCaller L)))) ++ dstW dst (renV (toCaller L) res)
def syOuts (L : List (Nat × Nat)) (dt : List Nat) : List Nat := (L.filter fun x => dt.contains x.1).map (·.2)
def viewG (look : Nat → Option Blk) (vs : List VwW) : Nat → V → Option V
 | 0, _ => none
 | n + 1, c => match c with
  | .ref b off len => match vs.find? (fun v => v.b == b) with
   | some v => match off with
    | 0 => match n with
     | 0 => none
     | _ + 1 => (look b).map fun k => .sl false k.size (v.l.map v.ty.d)
    | _ + 1 => none
   | none => viewV look (n + 1) (.ref b off len)
  | .ptr b i off => match look b with
   | some k => match k.rows[i]? with
    | some r => (mapO (fun c => onlyCell (viewG look vs n c)) (r.drop off)).map .snap
    | none => none
   | none => none
  | .fn f a c => match mapO (viewG look vs n) a, mapO (viewG look vs n) c with
   | some a', some c' => some (.fn f a' c')
   | _, _ => none
  | .agg l => (mapO (viewG look vs n) l).map .agg
  | .tup l => (mapO (viewG look vs n) l).map .tup
  | c => viewV look (n + 1) c
def viewE (look : Nat → Option Blk) (vs : List VwW) : Nat → V → List (Nat × List (List V) × Nat)
 | 0, _ => []
 | n + 1, c => match c with
  | .ref b _ len => match vs.find? (fun v => v.b == b) with
   | some _ => match look b with
    | some k => [(b, k.rows, len)]
    | none => []
   | none => []
  | .ptr b i off => match look b with
   | some k => match k.rows[i]? with
    | some r => (r.drop off).flatMap (viewE look vs n)
    | none => []
   | none => []
  | .fn _ a c => a.flatMap (viewE look vs n) ++ c.flatMap (viewE look vs n)
  | .agg l => l.flatMap (viewE look vs n)
  | .tup l => l.flatMap (viewE look vs n)
  | _ => []
def viewOp (P : Program) (G : Nat → Option (List V)) (ops : Array Oper) (ex : List Nat) (vs : List VwW) (i : Nat) (s : St) : Option (Option Nat × FuncId × List V × List (Nat × List (List V) × Nat)) :=
 match callAt P G ops i s with
 | some (o, f, cs) => match vsOk vs with
  | true => (mapO (viewG (s.lookC o ex) vs 8) cs).map fun ds => (o.dst, f, ds, cs.flatMap (viewE (s.lookC o ex) vs 8))
  | false => none
 | none => none
def reach (look : Nat → Option Blk) : Nat → List Nat → List Nat
 | 0, bs => bs
 | n + 1, bs => bs ++ reach look n (bs.flatMap fun b => match look b with | some k => refsL (k.rows.headD []) | none => [])
def coeR : List (List V) → List (List V) → List (List V)
 | e :: es, c :: cs => coeL (coeV 8) e c :: coeR es cs
 | _, cs => cs
def coeSrc (sy : List Nat) (sb : Option Nat) (e rows : List (List V)) : List (List V) := match sb with
 | some b => match sy.contains b with
  | true => rows
  | false => coeR e rows
 | none => rows
def syStep (sy : List Nat) (ws : List Wr) (told : List Nat) : List Nat := (told.filter fun b => (wrBs ws).contains b) ++ sy.filter fun b => !(wrBs ws).contains b
section
variable (P : Program) (G : Nat → Option (List V))
def reK (a : Nat) {ρ : Type} (k : T P G ρ) (R : List Loc) (ws : List Wr) (s : St) (p : Plan) (sy : List Nat) (next : T P G ρ → St → Plan → List Nat → C) : C :=
 match k with
 | .re a' w k' => match a' == a with
  | true => .re ws (next k' (s.app w.b) (p ++ [(R, w.b)]) (syStep sy w.b w.dt))
  | false => next k (s.app ws) (p ++ [(R, ws)]) (syStep sy ws [])
 | k => next k (s.app ws) (p ++ [(R, ws)]) (syStep sy ws [])
def dflt (ops : Array Oper) (i : Nat) {ρ : Type} (g : T P G ρ) (s : St) (p : Plan) (sy : List Nat) (next : T P G ρ → St → Plan → List Nat → C) : C :=
 match stepRW P G ops i s with
 | some (R, ws) => next g (s.app ws) (p ++ [(R, ws)]) (syStep sy ws [])
 | none => .stuck (1000 + i)
def dop (id : Nat) (ops : Array Oper) (i : Nat) {ρ : Type} (g : T P G ρ) (s : St) (p : Plan) (sy : List Nat) (next : T P G ρ → St → Plan → List Nat → C) : C :=
 match g with
 | .fail => .fail
 | .chk a c k => match a == id * 1000 + i + 1 with
  | true => match chkOp P G ops i s with
   | some (c', ws) => .chk c' (reK P G a k (opR ops i s []) ws s p sy next)
   | none => .stuck 1
  | false => dflt P G ops i (.chk a c k) s p sy next
 | .re a w k => match a == id * 1000 + i + 1 with
  | true => match stepRW P G ops i s with
   | some (R, ws) => .re ws (next k (s.app w.b) (p ++ [(R, w.b)]) (syStep sy w.b w.dt))
   | none => .stuck 2
  | false => dflt P G ops i (.re a w k) s p sy next
 | .row a ty l j c k => match a == id * 1000 + i + 1 with
  | true => match rowOp P G ops i s with
   | some (rows, j', c', f) => .row rows j' c' fun x => match f (ty.c x) with
    | some ws => reK P G a (k x) (opR ops i s []) ws s p sy next
    | none => .stuck 4
   | none => .stuck 3
  | false => dflt P G ops i (.row a ty l j c k) s p sy next
 | .app a ty l x bytes fl hf k => match a == id * 1000 + i + 1 with
  | true => match appOp P G ops [] i s with
   | some A => .app A.rows A.len (coeSrc sy A.sb (x.map ty.c) A.srows) A.bytes A.fl (
     let ws := delW A.b ++ (delW A.sb ++ [.b A.d (some ⟨A.size, A.excl, (l ++ x).map ty.c⟩), .t A.d (.ref A.d 0 (l ++ x).length)])
     next k (s.app ws) (p ++ [(opR ops i s [], ws)]) (syStep sy ws [A.d]))
   | none => .stuck 5
  | false => dflt P G ops i (.app a ty l x bytes fl hf k) s p sy next
 | .hrow a ty l hole j k => match a == id * 1000 + i + 1 with
  | true => match rowOp P G ops i s with
   | some (rows, j', c', f) => match c' with
    | true => match f hole with
     | some ws => .hrow rows j' (reK P G a k (opR ops i s []) ws s p sy next)
     | none => .stuck 4
    | false => .stuck 3
   | none => .stuck 3
  | false => dflt P G ops i (.hrow a ty l hole j k) s p sy next
 | .rowt a ty l j col k => match a == id * 1000 + i + 1 with
  | true => match takeOp P G ops col i s with
   | some (rows, j', f) => .row rows j' true fun x => match f (ty.c x) with
    | some ws => reK P G a (k x) (opR ops i s []) ws s p sy next
    | none => .stuck 4
   | none => .stuck 3
  | false => dflt P G ops i (.rowt a ty l j col k) s p sy next
 | .nst a ty l hole j col y ty2 o cut k => match a == id * 1000 + i + 1 with
  | true => match nstOp P G ops hole ((match cut with | none => o | some n => o.drop n).map ty2.c) col i s with
   | some (b, kb, r, d2, kd, off, len, row) => .nst kb.rows r kd.rows off len row (
     let ws := [.b b (some ⟨kb.size, true, (l.set j y).map ty.c⟩), .b d2 none]
     next k (s.app ws) (p ++ [(opR ops i s [], ws)]) (syStep sy ws [b]))
   | none => .stuck 11
  | false => dflt P G ops i (.nst a ty l hole j col y ty2 o cut k) s p sy next
 | .appn a ty l y col d2 ty2 o bytes k => match a == id * 1000 + i + 1 with
  | true => match appOp P G ops [d2] i s, s.b d2 with
   | some A, some kd => match !(A.fl || (A.d == d2 || (A.b == some d2 || A.sb == some d2))) with
    | true => .appn A.rows A.len A.srows A.bytes kd.rows (some (.sl true kd.size kd.rows)) (
      let ws := delW A.b ++ (delW A.sb ++ [.b A.d (some ⟨A.size, A.excl, (l ++ [y]).map ty.c⟩), .t A.d (.ref A.d 0 (l ++ [y]).length), .b d2 none])
      next k (s.app ws) (p ++ [(opR ops i s [d2], ws)]) (syStep sy ws [A.d]))
    | false => .stuck 13
   | _, _ => .stuck 12
  | false => dflt P G ops i (.appn a ty l y col d2 ty2 o bytes k) s p sy next
 | .call a sp Li Lo k => match a == id * 1000 + i + 1 with
  | true => match callOp P G ops Li Lo sy i s with
   | some (dst, f, as, ins) => .call f (coeL (coeV 8) sp.args as) ins fun r => match outsOk (Li ++ Lo) sp.dt (sp.outs r) (sp.res r) with
    | true => reK P G a (k r) (opR ops i s ((Li ++ Lo).map (·.2))) (callWs (Li ++ Lo) sp.dt (sp.outs r) dst (sp.res r)) s p sy fun g s p sy => next g s p (syOuts (Li ++ Lo) sp.dt ++ sy)
    | false => .stuck 7
   | none => .stuck 6
  | false => dflt P G ops i (.call a sp Li Lo k) s p sy next
 | .call2 a sp Li Lo k k2 => match a == id * 1000 + i + 1 with
  | true => match callOp P G ops Li Lo sy i s with
   | some (dst, f, as, ins) => .call2 f (coeL (coeV 8) sp.args as) ins (fun r => match outsOk (Li ++ Lo) sp.dt (sp.outs (.inl r)) (sp.res (.inl r)) with
    | true => reK P G a (k r) (opR ops i s ((Li ++ Lo).map (·.2))) (callWs (Li ++ Lo) sp.dt (sp.outs (.inl r)) dst (sp.res (.inl r))) s p sy fun g s p sy => next g s p (syOuts (Li ++ Lo) sp.dt ++ sy)
    | false => .stuck 7) fun r => match outsOk (Li ++ Lo) sp.dt (sp.outs (.inr r)) (sp.res (.inr r)) with
    | true => reK P G a (k2 r) (opR ops i s ((Li ++ Lo).map (·.2))) (callWs (Li ++ Lo) sp.dt (sp.outs (.inr r)) dst (sp.res (.inr r))) s p sy fun g s p sy => next g s p (syOuts (Li ++ Lo) sp.dt ++ sy)
    | false => .stuck 7
   | none => .stuck 6
  | false => dflt P G ops i (.call2 a sp Li Lo k k2) s p sy next
 | .view a sp vs k => match a == id * 1000 + i + 1 with
  | true => match ops[i]? with
   | some o =>
    let ex := reach (fun b => match sy.contains b with | true => none | false => s.b b) 3 (opBs s o)
    match viewOp P G ops ex vs i s with
    | some (dst, f, ds, eqs) => .view f (coeL (coeV 8) sp.args ds) eqs fun r => match flatB (sp.res r) && (sp.ins.isEmpty && (sp.outs r).isEmpty) with
     | true => next (k r) (s.app (dstW dst (sp.res r))) (p ++ [(opR ops i s ex, dstW dst (sp.res r))]) sy
     | false => .stuck 10
    | none => .stuck 9
   | none => .stuck 8
  | false => dflt P G ops i (.view a sp vs k) s p sy next
 | .opr a R k => match a == id * 1000 + i + 1 with
  | true => match opAt ops i s with
   | some o => match (match o.dst with | some d => decide (d < s.n) && !(s.u d) | none => true) with
    | true => .rule o.op o.dst (R.vals.map fun p => s.evC G o p.1) (R.blks.map fun p => s.b p.1) fun r =>
      next (k r) (s.app (R.ws r)) (p ++ [(opR ops i s (R.blks.map (·.1)), R.ws r)]) (syStep sy (R.ws r) R.dt)
    | false => .stuck 15
   | none => .stuck 14
  | false => dflt P G ops i (.opr a R k) s p sy next
 | g => dflt P G ops i g s p sy next
def guardT (ops : Array Oper) (i : Nat) (s : St) : Option (Nat × Bool) :=
 match ops[i]? with
 | some o => match o.guard with
  | some (j, _) => match (ops[j]?).bind (·.dst) with
   | some d => match s.t d with
    | .bool b => some (d, b)
    | _ => none
   | none => none
  | none => none
 | none => none
def idxT (ops : Array Oper) (i : Nat) (s : St) : Option (Nat × IntKind × Int) :=
 match ops[i]? with
 | some o => match o.op with
  | .indexAddr _ _ (.tmp t) => match s.t t with
   | .int k m => some (t, k, m)
   | _ => none
  | .index _ _ (.tmp t) => match s.t t with
   | .int k m => some (t, k, m)
   | _ => none
  | _ => none
 | none => none
def rg (id : Nat) (ops : Array Oper) : List Nat → {ρ : Type} → T P G ρ → St → Plan → List Nat → (T P G ρ → St → Plan → List Nat → C) → C
 | [], _, g, s, p, sy, κ => κ g s p sy
 | i :: l, _, g, s, p, sy, κ => match g with
  | .br a c x y => match a == id * 1000 + i + 1 with
   | true => match guardT ops i s with
    | some (d, b) => .br b (dop P G id ops i x (s.setT d (.bool true)) p sy fun g s p sy => rg id ops l g s p sy κ) (dop P G id ops i y (s.setT d (.bool false)) p sy fun g s p sy => rg id ops l g s p sy κ)
    | none => .stuck 20
   | false => dop P G id ops i (.br a c x y) s p sy fun g s p sy => rg id ops l g s p sy κ
  | .ceq a n vs k => match a == id * 1000 + i + 1 with
   | true => match idxT ops i s with
    | some (t, kd, m) => vs.foldr (fun v r => .br (m == v) (dop P G id ops i (k v) (s.setT t (.int kd v)) p sy fun g s p sy => rg id ops l g s p sy κ) r) .fail
    | none => .stuck 21
   | false => dop P G id ops i (.ceq a n vs k) s p sy fun g s p sy => rg id ops l g s p sy κ
  | g => dop P G id ops i g s p sy fun g s p sy => rg id ops l g s p sy κ
end
def okU (us : List Nat) (i : Nat) : Bool := us.contains i || uTop i
def blkOkB (us sy : List Nat) (p : Nat × Blk) : Bool := sy.contains p.1 || p.2.rows.all fun r => r.all (okV (okU us))
def newTs (kp wt : List Nat) (s : St) : List (Nat × V) := (kp.filter fun i => wt.contains i).map fun i => (i, s.t i)
def dedup : List Nat → List Nat
 | [] => []
 | x :: l => match l.contains x with
  | true => dedup l
  | false => x :: dedup l
def newBs (wb : List Nat) (s : St) : List (Nat × Blk) := (dedup wb).filterMap fun b => match s.b b with
 | some k => some (b, k)
 | none => none
def regEnd (kp : List Nat) (d : D) (s : St) (p : Plan) (sy : List Nat) (next : D → C) : C :=
 let wt := p.wts
 let wb := p.wbs
 let us := dedup (wb ++ d.us)
 nrmT (newTs kp wt s) fun nt => nrmB sy (newBs wb s) fun nb =>
  match nt.all (fun x => okV (okU us) x.2) && nb.all (blkOkB us sy) with
  | true => next ⟨d.n, nt ++ d.ts.filter (fun x => !wt.contains x.1), nb ++ d.bs.filter (fun x => !wb.contains x.1), us, sy⟩
  | false => .stuck 30
def regFin (P : Program) (G : Nat → Option (List V)) (ops : Array Oper) (draw : Bool) (ts : List Nat) (d : D) {ρ : Type} (g : T P G ρ) (s : St) (p : Plan) : C :=
 match g with
 | .done _ => match (!draw || drawOk ops p) && ((p.wbs.all fun b => !(d.bs.any fun x => x.1 == b)) && (p.wts.all fun t => (ops.toList.filterMap (·.dst)).contains t)) with
  | true => .fins (ts.map s.t)
  | false => .stuck 31
 | .fail => .fail
 | _ => .stuck 32
def cndD (ops : Array Oper) (ts : List Nat) (d : D) (vs : List V) : D :=
 { d with ts := ts.zip vs ++ d.ts.filter fun x => !(ops.toList.filterMap (·.dst)).contains x.1 && !ts.contains x.1 }
def Ext.us (x : Ext) : List Nat := x.bs.map (·.1)
def Ext.D (n : Nat) (x : Ext) : D := ⟨n, x.ts, x.bs, x.us, x.dt⟩
def Ext.ok (x : Ext) : Bool := x.ts.all (fun p => okV (okU x.us) p.2) && x.bs.all (blkOkB x.us x.dt)
def isNormal : Exit → Bool
 | .normal => true
 | _ => false
def coeB (dt : List Nat) (id : Nat) (e : Blk) (act : Option Blk) : Option Blk := match dt.contains id with
 | true => act
 | false => act.map fun k => ⟨k.size, k.excl, coeR e.rows k.rows⟩
def extTs (x : Ext) (st : St) : List (Nat × V) := x.ts.map fun p => (p.1, coeV 8 p.2 (st.t p.1))
def extBs (x : Ext) (st : St) : List (Nat × Option Blk) := x.bs.map fun p => (p.1, coeB x.dt p.1 p.2 (st.b p.1))
def finExt (e : Exit) (x : Ext) (d : D) : C := .fin none (some e) (extTs x d.st) (extBs x d.st)
def fin (P : Program) (G : Nat → Option (List V)) {ρ : Type} (F : Fin' ρ) (g : T P G ρ) (e : Exit) (d : D) : C :=
 match g with
 | .done r => match F with
  | .fn rs res outs => match e with
   | .normal | .ret => .fin ((resultsV P d.st rs).map (coeV 8 (res r))) none [] ((outs r).map fun p => (p.1, d.st.b p.1))
   | _ => .stuck 41
  | .mid E => finExt e (E r) d
  | .rnd S E => match r with
   | .inl y => match isNormal e with
    | true => finExt e (S y) d
    | false => .stuck 42
   | .inr z => match isNormal e with
    | true => .stuck 43
    | false => finExt e (E z) d
  | .reg _ _ => .stuck 44
 | _ => .stuck 40
def shD (b z : Nat) (rows : List (List V)) : Nat → V → V
 | 0, _ => .undef
 | n + 1, c => match c with
  | .ref b' off len => match b' == b with
   | true => match off with
    | 0 => .sl false z rows
    | o + 1 => .ref b' (o + 1) len
   | false => .ref b' off len
  | .fn f x y => .fn f (x.map (shD b z rows n)) (y.map (shD b z rows n))
  | .agg l => .agg (l.map (shD b z rows n))
  | .tup l => .tup (l.map (shD b z rows n))
  | c => c
def shE (b : Nat) (rows : List (List V)) : Nat → V → List (Nat × List (List V) × Nat)
 | 0, _ => []
 | n + 1, c => match c with
  | .ref b' off len => match b' == b with
   | true => match off with
    | 0 => [(b, rows, len)]
    | _ + 1 => []
   | false => []
  | .fn _ x y => x.flatMap (shE b rows n) ++ y.flatMap (shE b rows n)
  | .agg l => l.flatMap (shE b rows n)
  | .tup l => l.flatMap (shE b rows n)
  | _ => []
def lnD (b m : Nat) : Nat → V → V
 | 0, c => c
 | n + 1, c => match c with
  | .ref b' off len => match b' == b with
   | true => match off with
    | 0 => .ref b' 0 m
    | o + 1 => .ref b' (o + 1) len
   | false => .ref b' off len
  | .fn f x y => .fn f (x.map (lnD b m n)) (y.map (lnD b m n))
  | .agg l => .agg (l.map (lnD b m n))
  | .tup l => .tup (l.map (lnD b m n))
  | c => c
def lnB (sy : List Nat) (b m : Nat) (p : Nat × Blk) : Nat × Blk := match sy.contains p.1 with
 | true => p
 | false => (p.1, ⟨p.2.size, p.2.excl, p.2.rows.map (·.map (lnD b m 6))⟩)
def lnEB (sy : List Nat) (b : Nat) (p : Nat × Blk) : List (Nat × List (List V) × Nat) := match sy.contains p.1 with
 | true => []
 | false => p.2.rows.flatMap fun r => r.flatMap (shE b [] 6)
def ghE (w : GhW) (d : D) : List (Nat × List (List V) × Nat) :=
 match w with
 | .share v _ => match d.st.b v.b with
  | some k => (d.ts.flatMap fun p => shE v.b k.rows 6 p.2) ++ d.bs.flatMap fun p => match p.1 == v.b || d.sy.contains p.1 with
   | true => []
   | false => p.2.rows.flatMap fun r => r.flatMap (shE v.b k.rows 6)
  | none => []
 | .len b _ _ _ => (d.ts.flatMap fun p => shE b [] 6 p.2) ++ d.bs.flatMap (lnEB d.sy b)
 | _ => []
def shareBs (d : D) (v : VwW) (k : Blk) : List (Nat × Blk) := (d.bs.filter fun p => !(p.1 == v.b)).map fun p => (p.1, match d.sy.contains p.1 with
 | true => p.2
 | false => ⟨p.2.size, p.2.excl, p.2.rows.map (·.map (shD v.b k.size (v.l.map v.ty.d) 6))⟩)
def smallB (s : St) (b : Nat) : Bool := match s.b b with
 | some k => decide (k.size < MAPS)
 | none => false
theorem smallB_spec {s : St} {b : Nat} {k : Blk} (h : smallB s b = true) (hk : s.b b = some k) : k.size < MAPS := by
 unfold smallB at h; rw [hk] at h; simpa using h
def setCell (k : Blk) (j : Nat) (c : V) : Blk := ⟨k.size, k.excl, match k.rows with | r :: rs => r.set j c :: rs | [] => []⟩
def takeD (d : D) (b dd : Nat) (kb : Blk) (_n : Nat) (rows : List (List V)) (z : Nat) (rs : List (List V)) : D :=
 ⟨d.n, d.ts, (dd, ⟨z, false, rs⟩) :: (b, ⟨kb.size, kb.excl, rows⟩) :: d.bs.filter (fun p => !(p.1 == b)), dd :: d.us, dd :: d.sy.filter (fun x => !(x == b))⟩
def cutB' (sy : List Nat) (b k : Nat) (p : Nat × Blk) : Nat × Blk := match sy.contains p.1 with
 | true => p
 | false => (p.1, ⟨p.2.size, p.2.excl, p.2.rows.map (·.map (cutV b k 6))⟩)
def cutX (d : D) (b : Nat) (kb : Blk) (rows : List (List V)) (k : Nat) (next : D → C) : C :=
 nrmT (d.ts.map fun p => (p.1, cutV b k 6 p.2)) fun ts => nrmB (b :: d.sy) ((b, ⟨kb.size, kb.excl, rows⟩) :: (d.bs.filter fun p => !(p.1 == b)).map (cutB' d.sy b k)) fun bs =>
  next ⟨d.n, ts, bs, d.us, b :: d.sy⟩
def ghX (w : GhW) (d : D) (next : D → C) : C :=
 match w with
 | .virt b t size => match d.st.t t, okU d.us b || !decide (size < MAPS) with
  | .nilsl, false => next { d with ts := (t, .ref b 0 0) :: d.ts.filter (fun x => !(x.1 == t)), bs := (b, ⟨size, true, []⟩) :: d.bs, us := b :: d.us }
  | _, _ => .stuck 50
 | .virtC b x j size => match d.st.b x, okU d.us b || !decide (size < MAPS), d.sy.contains x with
  | some k, false, false => match k.rows with
   | r :: _ => match r[j]? with
    | some .nilsl => next { d with bs := (b, ⟨size, true, []⟩) :: (x, setCell k j (.ref b 0 0)) :: d.bs.filter (fun p => !(p.1 == x)), us := b :: d.us }
    | _ => .stuck 52
   | [] => .stuck 52
  | _, _, _ => .stuck 53
 | .ren a b => match okU d.us b, a == b with
  | false, false => nrmT (d.ts.map fun p => (p.1, renV (renF a b) p.2)) fun ts => nrmB ((d.sy.filter fun x => !(x == b)).map (renF a b)) (d.bs.map fun p => (renF a b p.1, renB d.sy p.1 (renF a b) p.2)) fun bs =>
    next ⟨d.n, ts, bs, b :: d.us, (d.sy.filter fun x => !(x == b)).map (renF a b)⟩
  | _, _ => .stuck 54
 | .drop l =>
  let us := d.us.filter fun b => !l.contains b
  match (d.bs.filter fun p => !l.contains p.1).all fun p => okU us p.1 && blkOkB us d.sy p with
  | true => next ⟨d.n, d.ts.filter (fun p => okV (okU us) (d.st.t p.1)), d.bs.filter (fun p => !l.contains p.1), us, d.sy⟩
  | false => .stuck 55
 | .len b m _ _ => nrmT (d.ts.map fun p => (p.1, lnD b m 6 p.2)) fun ts => nrmB d.sy (d.bs.map (lnB d.sy b m)) fun bs => next ⟨d.n, ts, bs, d.us, d.sy⟩
 | .tell b es => match d.st.b b, d.sy.contains b with
  | some k, false => nrmB d.sy ((b, ⟨k.size, k.excl, coeR es k.rows⟩) :: d.bs.filter fun p => !(p.1 == b)) fun bs => next { d with bs := bs }
  | _, _ => .stuck 58
 | .share v _ => match d.st.b v.b with
  | some k => match d.sy.contains v.b || k.rows.all fun r => r.all dcell with
   | true => nrmT (d.ts.map fun p => (p.1, shD v.b k.size (v.l.map v.ty.d) 6 p.2)) fun ts =>
     nrmB d.sy (shareBs d v k) fun bs =>
     next ⟨d.n, ts, bs, v.b :: d.us, d.sy⟩
   | false => .stuck 56
  | none => .stuck 57
def isRange (c : Code) : Bool := match c with
 | .region _ ops _ => ops.toList.any fun o => match o.op with
  | .range _ _ => true
  | _ => false
 | _ => false
abbrev Rec (P : Program) (G : Nat → Option (List V)) := (ρ : Type) → Fin' ρ → T P G ρ → Code ⊕ Exit → List Kf → D → C
section
variable {P : Program} {G : Nat → Option (List V)} (kp : List Nat) (rec : Rec P G) {ρ : Type} (F : Fin' ρ)
def sxE (g : T P G ρ) (e : Exit) (K : List Kf) (d : D) : C :=
 match K with
 | [] => fin P G F g e d
 | .seq y :: K => match isNormal e with
  | true => rec ρ F g (.inl y) K d
  | false => rec ρ F g (.inr e) K d
 | .block id :: K => match e with
  | .exit id' => match id' == id with
   | true => rec ρ F g (.inr .normal) K d
   | false => rec ρ F g (.inr (.exit id')) K d
  | e => rec ρ F g (.inr e) K d
 | .scope :: K => match e with
  | .goto _ => .stuck 60
  | e => rec ρ F g (.inr e) K d
 | .lp c :: K => match isNormal e with
  | true => rec ρ F g (.inl c) (.lp c :: K) d
  | false => rec ρ F g (.inr e) K d
def sxRg (id : Nat) (ops : Array Oper) (draw : Bool) (g : T P G ρ) (K : List Kf) (d : D) : C :=
 rg P G id ops (List.range' 0 ops.size) g d.st [] d.sy fun g s p sy => match !draw || drawOk ops p with
  | true => regEnd kp d s p sy fun d' => rec ρ F g (.inr .normal) K d'
  | false => .stuck 63
def sxR (id : Nat) (ops : Array Oper) (draw : Bool) (g : T P G ρ) (K : List Kf) (d : D) : C :=
 match g with
 | .cnd id' ts first E k => match id' == id with
  | true => .bind (rg P G id ops (List.range' 0 ops.size) first d.st [] d.sy fun g s p _ => regFin P G ops draw ts d g s p) fun e => match (E e).all (okV (okU d.us)) && (E e).length == ts.length with
   | true => rec ρ F (k e) (.inr .normal) K (cndD ops ts d (E e))
   | false => .stuck 61
  | false => sxRg kp rec F id ops draw (.cnd id' ts first E k) K d
 | g => sxRg kp rec F id ops draw g K d
def sxN (g : T P G ρ) (c : Code) (K : List Kf) (d : D) : C :=
 match c with
 | .cond o x y => match g with
  | .br _ _ a b => match d.st.ev G o with
   | some (.bool c) => .br c (rec ρ F a (.inl x) K d) (rec ρ F b (.inl y) K d)
   | _ => .stuck 65
  | .tt k => match d.st.ev G o with
   | some (.bool c) => match c with
    | true => rec ρ F k (.inl x) K d
    | false => .stuck 66
   | _ => .stuck 66
  | .ff k => match d.st.ev G o with
   | some (.bool c) => match c with
    | false => rec ρ F k (.inl y) K d
    | true => .stuck 67
   | _ => .stuck 67
  | _ => .stuck 68
 | .block id x => rec ρ F g (.inl x) (.block id :: K) d
 | .scope x => rec ρ F g (.inl x) (.scope :: K) d
 | .loop x => match g with
  | .lp S body x0 => match F with
   | .mid E => match K with
    | [] => .loop (extTs (S x0) d.st) (extBs (S x0) d.st) fun y => match (S y).ok && isNormal (S y).ex with
     | true => rec _ (.rnd S E) (body y) (.inl x) [] ((S y).D d.n)
     | false => .stuck 69
    | _ :: _ => .stuck 73
   | _ => .stuck 74
  | g => rec ρ F g (.inl x) (.lp x :: K) d
 | .rangeFunc o ps as bd => match g with
  | .sub S k => match S.x.ok with
   | true => .sub (.rangeFunc o ps as bd) d.n (extTs S.x d.st) (extBs S.x d.st) fun e => match (S.E e).ok with
    | true => rec ρ F (k e) (.inr (S.E e).ex) K ((S.E e).D d.n)
    | false => .stuck 64
   | false => .stuck 76
  | _ => .stuck 75
 | _ => .stuck 71
def sxB (g : T P G ρ) (c : Code) (K : List Kf) (d : D) : C :=
 match g with
 | .bind 0 first E k => .bind (rec _ (.mid E) first (.inl c) [] d) fun e => match (E e).ok with
  | true => rec ρ F (k e) (.inr (E e).ex) K ((E e).D d.n)
  | false => .stuck 64
 | .bind2 0 first E E2 k k2 => .bind2 (rec _ (.mid (Sum.elim E E2)) first (.inl c) [] d)
  (fun e => match (E e).ok with
   | true => rec ρ F (k e) (.inr (E e).ex) K ((E e).D d.n)
   | false => .stuck 64) fun e => match (E2 e).ok with
   | true => rec ρ F (k2 e) (.inr (E2 e).ex) K ((E2 e).D d.n)
   | false => .stuck 64
 | .bind3 0 first E E2 E3 k k2 k3 => .bind3 (rec _ (.mid (Sum.elim E (Sum.elim E2 E3))) first (.inl c) [] d)
  (fun e => match (E e).ok with
   | true => rec ρ F (k e) (.inr (E e).ex) K ((E e).D d.n)
   | false => .stuck 64) (fun e => match (E2 e).ok with
   | true => rec ρ F (k2 e) (.inr (E2 e).ex) K ((E2 e).D d.n)
   | false => .stuck 64) fun e => match (E3 e).ok with
   | true => rec ρ F (k3 e) (.inr (E3 e).ex) K ((E3 e).D d.n)
   | false => .stuck 64
 | .bind2 (j + 1) first E E2 k k2 => match c with
  | .block id x => rec ρ F (.bind2 j first E E2 k k2) (.inl x) (.block id :: K) d
  | .scope x => rec ρ F (.bind2 j first E E2 k k2) (.inl x) (.scope :: K) d
  | .loop x => rec ρ F (.bind2 j first E E2 k k2) (.inl x) (.lp x :: K) d
  | _ => .stuck 72
 | .bind3 (j + 1) first E E2 E3 k k2 k3 => match c with
  | .block id x => rec ρ F (.bind3 j first E E2 E3 k k2 k3) (.inl x) (.block id :: K) d
  | .scope x => rec ρ F (.bind3 j first E E2 E3 k k2 k3) (.inl x) (.scope :: K) d
  | .loop x => rec ρ F (.bind3 j first E E2 E3 k k2 k3) (.inl x) (.lp x :: K) d
  | _ => .stuck 72
 | .bind (j + 1) first E k => match c with
  | .block id x => rec ρ F (.bind j first E k) (.inl x) (.block id :: K) d
  | .scope x => rec ρ F (.bind j first E k) (.inl x) (.scope :: K) d
  | .loop x => rec ρ F (.bind j first E k) (.inl x) (.lp x :: K) d
  | _ => .stuck 72
 | g => sxN rec F g c K d
def sxSub (g : T P G ρ) (c : Code) (K : List Kf) (d : D) : C :=
 match g with
 | .sub S k => match S.x.ok with
  | true => .sub c d.n (extTs S.x d.st) (extBs S.x d.st) fun e => match (S.E e).ok with
   | true => rec ρ F (k e) (.inr (S.E e).ex) K ((S.E e).D d.n)
   | false => .stuck 64
  | false => .stuck 76
 | _ => .stuck 75
def sxC (g : T P G ρ) (c : Code) (K : List Kf) (d : D) : C :=
 match c with
 | .skip => rec ρ F g (.inr .normal) K d
 | .label _ => rec ρ F g (.inr .normal) K d
 | .exit id => rec ρ F g (.inr (.exit id)) K d
 | .ret => rec ρ F g (.inr .ret) K d
 | .seq x y => match isRange x with
  | true => sxSub rec F g (.seq x y) K d
  | false => rec ρ F g (.inl x) (.seq y :: K) d
 | .region id ops draw => sxR kp rec F id ops draw g K d
 | c => sxB rec F g c K d
def ghAt (a : Nat) (cur : Code ⊕ Exit) (K : List Kf) : Bool :=
 match cur with
 | .inr _ => K.isEmpty && a == 0
 | .inl (.loop _) => a == 1
 | .inl (.rangeFunc _ _ _ _) => a == 1
 | .inl (.seq x _) => a == 1 && isRange x
 | .inl (.region id _ _) => a == id + 2
 | _ => false
def sxD (g : T P G ρ) (cur : Code ⊕ Exit) (K : List Kf) (d : D) : C :=
 match cur with
 | .inr e => sxE rec F g e K d
 | .inl c => sxC kp rec F g c K d
def sxS (g : T P G ρ) (cur : Code ⊕ Exit) (K : List Kf) (d : D) : C :=
 match g with
 | .fail => .fail
 | .gh a w k => match ghAt a cur K with
  | true => .gh (ghE w d) (ghX w d fun d' => rec ρ F k cur K d')
  | false => sxD kp rec F (.gh a w k) cur K d
 | .cutg a b ty l n hs k => match ghAt a cur K with
  | true => match d.st.b b, decide (b < 1000000) && smallB d.st b with
   | some kb, true => .hrow kb.rows n (cutX d b kb ((l.drop n).map ty.c) n fun d' => rec ρ F k cur K d')
   | _, _ => .stuck 59
  | false => sxD kp rec F (.cutg a b ty l n hs k) cur K d
 | .rowg a b dd ty l j col z ty2 o hc hs k => match ghAt a cur K with
  | true => match d.st.b b, okU d.us dd, okU d.us b && (smallB d.st b && decide (z < MAPS)) with
   | some kb, false, true => .row kb.rows j true fun x => rec ρ F (k x) cur K (takeD d b dd kb l.length ((l.map ty.c).set j ((ty.c x).set col (.ref dd 0 (o x).length))) z ((o x).map ty2.c))
   | _, _, _ => .stuck 58
  | false => sxD kp rec F (.rowg a b dd ty l j col z ty2 o hc hs k) cur K d
 | g => sxD kp rec F g cur K d
end
def sx (P : Program) (G : Nat → Option (List V)) (kp : List Nat) (n : Nat) : Rec P G :=
 Nat.rec (fun _ _ _ _ _ _ => .stuck 99) (fun _ ih ρ F g cur K d => sxS kp ih (ρ := ρ) F g cur K d) n
end Go.EV
namespace Go.EV
open Go
theorem coeL_len (f : V → V → V) : ∀ (es cs : List V), (coeL f es cs).length = cs.length
 | [], cs => by cases cs <;> rfl
 | _ :: _, [] => rfl
 | e :: es, c :: cs => by simp [coeL, coeL_len f es cs]
theorem coeL_get (f : V → V → V) : ∀ (es cs : List V) (i : Nat) (d : V), (coeL f es cs)[i]? = some d → ∃ c, cs[i]? = some c ∧ (d = c ∨ ∃ e, d = f e c)
 | [], cs, i, d, h => by cases cs <;> exact ⟨d, h, .inl rfl⟩
 | _ :: _, [], i, d, h => by simp [coeL] at h
 | e :: es, c :: cs, i, d, h => by
  cases i with
  | zero => simp [coeL] at h; exact ⟨c, rfl, .inr ⟨e, h.symm⟩⟩
  | succ i =>
   simp only [coeL, List.getElem?_cons_succ] at h
   obtain ⟨c', h1, h2⟩ := coeL_get f es cs i d h
   exact ⟨c', by simpa using h1, h2⟩
theorem coeV_rep {γ : Gh} {w : World} {bs : Nat → Option Blk} {u : Nat → Bool} : ∀ (n : Nat) (e c : V) (v : Value), Rep γ w bs u c v → Rep γ w bs u (coeV n e c) v
 | 0, _, _, _, h => h
 | n + 1, e, c, v, h => by
  have ih := coeV_rep (γ := γ) (w := w) (bs := bs) (u := u) n
  cases c <;> simp only [coeV] <;> try exact h
  case nilsl =>
   split
   ·have := h.nilsl_inv; subst this; exact .data (.slNil _ _)
   ·exact h
  case sl o z r =>
   split
   ·exact h.strip
   ·exact h
  case agg cs =>
   split
   ·rename_i es
    obtain ⟨vs, rfl, h1, h2⟩ := h.agg_inv
    refine .agg _ vs (by rw [coeL_len]; exact h1) fun i c v hc hv => ?_
    obtain ⟨c', k1, k2⟩ := coeL_get _ _ _ _ _ hc
    rcases k2 with rfl | ⟨e, rfl⟩
    ·exact h2 i _ v k1 hv
    ·exact ih e c' v (h2 i c' v k1 hv)
   ·exact h
  case tup cs =>
   split
   ·rename_i es
    obtain ⟨vs, rfl, h1, h2⟩ := h.tup_inv
    refine .tup _ vs (by rw [coeL_len]; exact h1) fun i c v hc hv => ?_
    obtain ⟨c', k1, k2⟩ := coeL_get _ _ _ _ _ hc
    rcases k2 with rfl | ⟨e, rfl⟩
    ·exact h2 i _ v k1 hv
    ·exact ih e c' v (h2 i c' v k1 hv)
   ·exact h
theorem coeV_own : ∀ (n : Nat) (e c : V), (coeV n e c).isOwn = true → coeV n e c = c ∨ c = .nilsl
 | 0, _, _, _ => .inl rfl
 | n + 1, e, c, h => by
  cases c
  case nilsl => exact .inr rfl
  case sl o z r =>
   simp only [coeV] at h ⊢
   cases e with
   | sl o' z' r' => cases o' <;> simp_all [V.isOwn]
   | _ => exact .inl rfl
  case agg cs => simp only [coeV] at h; split at h <;> simp [V.isOwn] at h
  case tup cs => simp only [coeV] at h; split at h <;> simp [V.isOwn] at h
  all_goals exact .inl rfl
theorem coeV_wk {bs : Nat → Option Blk} {u : Nat → Bool} (n : Nat) (e c : V) : Wk bs u c (coeV n e c) := fun _ _ v h => coeV_rep n e c v h
theorem coeR_rel {bs : Nat → Option Blk} {u : Nat → Bool} : ∀ (es cs : List (List V)), RowsRel (fun c c' => Wk bs u c c' ∧ (c'.isOwn = true → c' = c ∨ c = .nilsl)) cs (coeR es cs)
 | [], cs => by
  cases cs <;> exact ⟨rfl, fun i r' h => ⟨r', h, rfl, fun j c' hc => ⟨c', hc, Wk.refl _, fun _ => .inl rfl⟩⟩⟩
 | _ :: _, [] => ⟨rfl, fun i r' h => by simp [coeR] at h⟩
 | e :: es, c :: cs => by
  obtain ⟨h1, h2⟩ := coeR_rel (bs := bs) (u := u) es cs
  refine ⟨by simp [coeR, h1], fun i r' h => ?_⟩
  cases i with
  | zero =>
   simp only [coeR, List.getElem?_cons_zero, Option.some.injEq] at h
   subst h
   refine ⟨c, rfl, coeL_len _ _ _, fun j c' hc => ?_⟩
   obtain ⟨c0, k1, k2⟩ := coeL_get _ _ _ _ _ hc
   refine ⟨c0, k1, ?_⟩
   rcases k2 with rfl | ⟨e0, rfl⟩
   ·exact ⟨Wk.refl _, fun _ => .inl rfl⟩
   ·exact ⟨coeV_wk 8 e0 c0, coeV_own 8 e0 c0⟩
  | succ i =>
   simp only [coeR, List.getElem?_cons_succ] at h
   obtain ⟨r, k1, k2⟩ := h2 i r' h
   exact ⟨r, by simpa using k1, k2⟩
theorem RowsRel.same {R : V → V → Prop} (h : ∀ c, R c c) (l : List (List V)) : RowsRel R l l := ⟨rfl, fun _ r' hr => ⟨r', hr, rfl, fun _ c' hc => ⟨c', hc, h c'⟩⟩⟩
theorem RowsRel.append {R : V → V → Prop} {l l' m m' : List (List V)} (h : RowsRel R l l') (k : RowsRel R m m') : RowsRel R (l ++ m) (l' ++ m') :=
  ⟨by simp [h.1, k.1], fun i r' hr => by
    by_cases hi : i < l'.length
    · rw [List.getElem?_append_left hi] at hr
      rw [List.getElem?_append_left (by rw [← h.1]; exact hi)]
      exact h.2 i r' hr
    · rw [List.getElem?_append_right (by omega)] at hr
      rw [List.getElem?_append_right (by rw [← h.1]; omega), ← h.1]
      exact k.2 _ r' hr⟩
theorem RowsRel.set {R : V → V → Prop} (h : ∀ c, R c c) (l : List (List V)) (j : Nat) {r r' : List V} (k : RowsRel R [r] [r']) : RowsRel R (l.set j r) (l.set j r') :=
  ⟨by simp, fun i q hq => by
    by_cases hi : j = i
    · subst hi
      have hl : j < l.length := by
        have := (List.getElem?_eq_some_iff.1 hq).1
        simpa using this
      rw [List.getElem?_set_self hl] at hq ⊢
      simp only [Option.some.injEq] at hq; subst hq
      obtain ⟨r0, h1, h2⟩ := k.2 0 r' rfl
      simp at h1; subst h1
      exact ⟨r, rfl, h2⟩
    · rw [List.getElem?_set_ne hi] at hq ⊢
      exact ⟨q, hq, rfl, fun _ c' hc => ⟨c', hc, h c'⟩⟩⟩
def CoeR (bs : Nat → Option Blk) (u : Nat → Bool) (c c' : V) : Prop := Wk bs u c c' ∧ (c'.isOwn = true → c' = c ∨ c = .nilsl)
theorem CoeR.same {bs : Nat → Option Blk} {u : Nat → Bool} (c : V) : CoeR bs u c c := ⟨Wk.refl _, fun _ => .inl rfl⟩
theorem Gst.rowsT {G : Nat → Option (List V)} (s : St) (d : Nat) (z : Nat) (x : Bool) {rows rows' : List (List V)} (h : ∀ bs u, RowsRel (CoeR bs u) rows rows') (t : List (Nat × V)) :
  Gst G ((s.setB d ⟨z, x, rows⟩).app (t.map fun p => .t p.1 p.2)) ((s.setB d ⟨z, x, rows'⟩).app (t.map fun p => .t p.1 p.2)) := by
 have key : ∀ (t : List (Nat × V)) (s s' : St), s'.n = s.n → s'.u = s.u → s'.t = s.t → (s'.app (t.map fun p => .t p.1 p.2)).n = (s.app (t.map fun p => .t p.1 p.2)).n ∧ (s'.app (t.map fun p => .t p.1 p.2)).u = (s.app (t.map fun p => .t p.1 p.2)).u ∧ (s'.app (t.map fun p => .t p.1 p.2)).t = (s.app (t.map fun p => .t p.1 p.2)).t ∧ (s'.app (t.map fun p => .t p.1 p.2)).b = s'.b ∧ (s.app (t.map fun p => .t p.1 p.2)).b = s.b := by
  intro t
  induction t with
  | nil => intro s s' h1 h2 h3; exact ⟨h1, h2, h3, rfl, rfl⟩
  | cons p t ih =>
   intro s s' h1 h2 h3
   exact ih (s.setT p.1 p.2) (s'.setT p.1 p.2) h1 h2 (by simp [St.setT, h3])
 obtain ⟨h1, h2, h3, h4, h5⟩ := key t (s.setB d ⟨z, x, rows⟩) (s.setB d ⟨z, x, rows'⟩) rfl rfl rfl
 refine Gst.cells h1 h2 (fun i => by rw [h3]; exact Wk.refl _) fun b => ?_
 rw [h4, h5]
 simp only [St.setB]
 by_cases hb : b = d
 ·subst hb
  exact .inr ⟨_, _, if_pos rfl, if_pos rfl, rfl, rfl, h _ _⟩
 ·rw [if_neg hb, if_neg hb]
  cases hs : s.b b with
  | none => exact .inl ⟨rfl, rfl⟩
  | some k => exact .inr ⟨k, k, rfl, rfl, rfl, rfl, RowsRel.same (fun c => CoeR.same c) _⟩
theorem coe1_rel {bs : Nat → Option Blk} {u : Nat → Bool} (e c : List V) : RowsRel (CoeR bs u) [c] [coeL (coeV 8) e c] := coeR_rel [e] [c]
mutual
theorem nrm_eq : ∀ (n : Nat) (v : V) (k : V → C), nrm n v k = k v
 | 0, _, _ => rfl
 | n + 1, v, k => by
  cases v <;> simp only [nrm] <;> simp only [nrmL_eq n]
theorem nrmL_eq : ∀ (n : Nat) (l : List V) (k : List V → C), nrmL n l k = k l
 | 0, _, _ => rfl
 | n + 1, l, k => by
  cases l with
  | nil => rfl
  | cons v l => simp only [nrmL, nrm_eq n, nrmL_eq n]
end
theorem nrmR_eq : ∀ (l : List (List V)) (k : List (List V) → C), nrmR l k = k l
 | [], _ => rfl
 | r :: l, k => by simp only [nrmR, nrmL_eq, nrmR_eq l]
theorem nrmT_eq : ∀ (l : List (Nat × V)) (k : List (Nat × V) → C), nrmT l k = k l
 | [], _ => rfl
 | (i, v) :: l, k => by simp only [nrmT, nrm_eq, nrmT_eq l]
theorem nrmB_eq (sy : List Nat) : ∀ (l : List (Nat × Blk)) (k : List (Nat × Blk) → C), nrmB sy l k = k l
 | [], _ => rfl
 | (i, b) :: l, k => by
  cases h : sy.contains i <;> simp only [nrmB, h, nrmR_eq, nrmB_eq sy l]
theorem binC_spec {op : BinOp} {k : IntKind} {a b : Int} {c : Bool} {v : V} (h : binC op k a b = some (c, v)) (hc : c = true) : intV op k a b = some v ∨ shiftV op k a b = some v := by
 subst hc
 cases op <;> simp only [binC, Option.some.injEq, Prod.mk.injEq, reduceCtorEq] at h
 case quo => obtain ⟨h1, rfl⟩ := h; left; simp only [Bool.not_eq_true', beq_eq_false_iff_ne, ne_eq] at h1; simp [intV, h1]
 case rem => obtain ⟨h1, rfl⟩ := h; left; simp only [Bool.not_eq_true', beq_eq_false_iff_ne, ne_eq] at h1; simp [intV, h1]
 case shl => obtain ⟨h1, rfl⟩ := h; right; simp only [decide_eq_true_eq] at h1; simp [shiftV, show ¬ b < 0 by omega]
 case shr => obtain ⟨h1, rfl⟩ := h; right; simp only [decide_eq_true_eq] at h1; simp [shiftV, show ¬ b < 0 by omega]
theorem loC_spec {lo : Option V} {h : Nat} {c : Bool} {l : Nat} (e : loC lo h = some (c, l)) (hc : c = true) : loV lo h = some l := by
 unfold loC at e
 unfold loV
 split at e
 ·simp only [Option.some.injEq, Prod.mk.injEq] at e; rw [e.2]
 ·simp only [Option.some.injEq, Prod.mk.injEq] at e
  obtain ⟨e1, rfl⟩ := e
  subst hc
  simp only [Bool.and_eq_true, decide_eq_true_eq] at e1
  simp [e1.1, e1.2]
 ·simp at e
theorem hiC_spec {n : Nat} {hi mx : Option V} {c : Bool} {h : Nat} (e : hiC n hi mx = some (c, h)) (hc : c = true) : hiV n hi mx = some h := by
 unfold hiC at e
 unfold hiV
 split at e
 ·simp only [Option.some.injEq, Prod.mk.injEq] at e; rw [e.2]
 ·simp only [Option.some.injEq, Prod.mk.injEq] at e
  obtain ⟨e1, rfl⟩ := e
  subst hc
  simp only [Bool.and_eq_true, decide_eq_true_eq] at e1
  simp [e1.1, e1.2]
 ·simp only [Option.some.injEq, Prod.mk.injEq] at e
  obtain ⟨e1, rfl⟩ := e
  subst hc
  simp only [Bool.and_eq_true, decide_eq_true_eq] at e1
  simp [e1.1, e1.2.1, e1.2.2]
 ·simp at e
theorem cutC_spec {n : Nat} {lo hi mx : Option V} {c : Bool} {l h : Nat} (e : cutC n lo hi mx = some (c, l, h)) (hc : c = true) : hiV n hi mx = some h ∧ loV lo h = some l := by
 unfold cutC at e
 split at e
 ·rename_i c1 h' e1
  split at e
  ·rename_i c2 l' e2
   simp only [Option.some.injEq, Prod.mk.injEq] at e
   obtain ⟨e3, rfl, rfl⟩ := e
   subst hc
   split at e3
   ·subst e3
    have : c1 = true := by simp [hiC] at e1; exact e1.1.symm ▸ rfl
    exact ⟨hiC_spec e1 this, loC_spec e2 rfl⟩
   ·subst e3
    have : c2 = true := by simp [loC] at e2; exact e2.1.symm ▸ rfl
    exact ⟨hiC_spec e1 rfl, loC_spec e2 this⟩
   ·simp only [Bool.and_eq_true] at e3
    exact ⟨hiC_spec e1 e3.1, loC_spec e2 e3.2⟩
  ·simp at e
 ·simp at e
theorem sliceC_spec {P : Program} {look : Nat → Option Blk} {t : TypeId} {c d : V} {lo hi mx : Option V} {b : Bool} (e : sliceC P look t c lo hi mx = some (b, d)) (hb : b = true) : sliceV P look t c lo hi mx = some d := by
 unfold sliceC at e
 unfold sliceV
 split at e
 ·rename_i hu
  rw [hu]
  split at e
  ·obtain ⟨⟨c1, l, h⟩, e1, e2⟩ := Option.map_eq_some_iff.1 e
   simp only [Prod.mk.injEq] at e2
   obtain ⟨rfl, rfl⟩ := e2
   obtain ⟨k1, k2⟩ := cutC_spec e1 hb
   simp [k1, k2]
  ·simp at e
 ·rename_i el hu
  rw [hu]
  simp only
  split at e
  ·simp at e
  ·rename_i ei he
   rw [he]
   simp only
   split at e
   ·split at e
    ·rename_i hs
     obtain ⟨⟨c1, l, h⟩, e1, e2⟩ := Option.map_eq_some_iff.1 e
     simp only [Prod.mk.injEq] at e2
     obtain ⟨rfl, rfl⟩ := e2
     obtain ⟨k1, k2⟩ := cutC_spec e1 hb
     simp [hs, k1, k2]
    ·simp at e
   ·rename_i b' off len'
    split at e
    ·rename_i k hk
     split at e
     ·rename_i hs
      obtain ⟨⟨c1, l, h⟩, e1, e2⟩ := Option.map_eq_some_iff.1 e
      simp only [Prod.mk.injEq] at e2
      obtain ⟨rfl, rfl⟩ := e2
      obtain ⟨k1, k2⟩ := cutC_spec e1 hb
      obtain ⟨hs, hmx⟩ := hs
      have hmx := Option.isNone_iff_eq_none.1 hmx
      subst hmx
      have k1 := hiR_of (N := k.rows.length - off) k1
      cases off with
      | zero => simp only [Nat.sub_zero] at k1; simp [hs, hk, k1, k2]
      | succ o => simp [hs, hk, k1, k2]
     ·simp at e
    ·simp at e
   ·simp at e
 ·simp at e
theorem readC_spec {P : Program} {e : Operand → Option V} {look : Nat → Option Blk} {op : Op} {c : Bool} {v : V} (h : readC P e look op = some (c, v)) (hc : c = true) : readV P e look op = some v := by
 unfold readC at h
 unfold readV
 split at h
 ·rename_i op t x y _
  split at h
  ·rename_i k a k' b hx hy
   simp only [hx, hy, binV]
   split at h
   ·rcases binC_spec h hc with h | h
    ·simp [intV] at h
    ·exact h
   ·rcases binC_spec h hc with h | h
    ·simp [intV] at h
    ·exact h
   ·rename_i n1 n2
    split at h
    ·rename_i hk
     rcases binC_spec h hc with h | h
     ·cases op <;> first | exact absurd rfl n1 | exact absurd rfl n2 | (subst hk; simp only [if_true, h])
     ·cases op <;> first | exact absurd rfl n1 | exact absurd rfl n2 | (simp [shiftV] at h)
    ·simp at h
  ·rename_i a b hx hy
   simp only [hx, hy, binV]
   split at h
   ·simp only [Option.some.injEq, Prod.mk.injEq] at h
    obtain ⟨h1, rfl⟩ := h
    subst hc
    simp only [decide_eq_true_eq] at h1
    simp only [strV, h1, if_true]
   ·simp at h
  ·simp at h
 ·rename_i t x i
  split at h
  ·rename_i s n hu hx hi
   simp only [Option.some.injEq, Prod.mk.injEq] at h
   obtain ⟨h1, rfl⟩ := h
   subst hc
   simp only [decide_eq_true_eq] at h1
   simp only [hx, hi, indexV, hu, h1, and_self, if_true]
  ·simp at h
 ·rename_i t x i
  split at h
  ·rename_i el b off len kk n hu hx hi
   split at h
   ·rename_i ei he
    split at h
    ·rename_i k hk
     split at h
     ·rename_i hs
      simp only [Option.some.injEq, Prod.mk.injEq] at h
      obtain ⟨h1, rfl⟩ := h
      subst hc
      simp only [Bool.and_eq_true, decide_eq_true_eq] at h1
      simp only [hx, hi, indexAddrV, hu, he, hk, hs]
      simp [h1]
     ·simp at h
    ·simp at h
   ·simp at h
  ·simp at h
 ·rename_i t x lo hi mx
  split at h
  ·rename_i c' l' h' m' e1 e2 e3 e4
   simp only [e1, e2, e3, e4]
   exact sliceC_spec h hc
  ·simp at h
 ·simp at h
section
variable {P : Program} {G : Nat → Option (List V)} {ops : Array Oper} {i : Nat} {s : St}
theorem chkOp_spec {c : Bool} {ws : List Wr} (h : chkOp P G ops i s = some (c, ws)) (hc : c = true) : StepL P G ops i s (opR ops i s []) ws := by
 unfold chkOp at h
 split at h
 ·rename_i o ho
  split at h
  ·rename_i hd
   obtain ⟨⟨c', v⟩, h1, h2⟩ := Option.map_eq_some_iff.1 h
   simp only [Prod.mk.injEq] at h2
   obtain ⟨rfl, rfl⟩ := h2
   exact stepL_of ⟨o, ho, effL_read hd (readC_spec h1 hc)⟩
  ·simp at h
 ·simp at h
theorem EffO.ghost {o : Oper} {st st1 st2 : St} (h : EffO P G o st st1) (g : Gst G st1 st2) : EffO P G o st st2 := fun fx γ a w hs hd next Q hn =>
 h fx γ a w hs hd next Q fun a' w' γ' k1 k2 k3 k4 => by
  obtain ⟨γ2, g1, g2, g3⟩ := g γ' a'.tmps w' k1
  exact hn a' w' γ2 g1 (k2.trans g2) (k3.trans g3) k4
theorem rowOp_spec {rows : List (List V)} {j : Nat} {c : Bool} {f : List V → Option (List Wr)} {r : List V} {ws : List Wr} (h : rowOp P G ops i s = some (rows, j, c, f)) (hc : c = true) (hr : rows[j]? = some r) (hf : f r = some ws) :
  StepL P G ops i s (opR ops i s []) ws := by
 subst hc
 unfold rowOp at h
 split at h
 ·rename_i o ho
  split at h
  ·rename_i t x jj d hop hdst
   split at h
   ·rename_i hd
    split at h
    ·rename_i ow size rows' kk n hx hj
     split at h
     ·rename_i hsz
      simp only [Option.some.injEq, Prod.mk.injEq] at h
      obtain ⟨rfl, rfl, h3, rfl⟩ := h
      simp only [Option.some.injEq] at hf
      subst hf
      refine told_idxSl (n := n) (rows := rows') (d := d) ?_ (by simpa using h3) hr
      simp only [idxSl, ho, hop, hdst, hd, if_true, hx, hj, hsz]
     ·simp at h
    ·simp at h
   ·simp at h
  ·rename_i t x d hop hdst
   split at h
   ·rename_i hd
    split at h
    ·rename_i b r' off hx
     split at h
     ·rename_i k hk
      simp only [Option.some.injEq, Prod.mk.injEq, true_and] at h
      obtain ⟨rfl, rfl, rfl⟩ := h
      obtain ⟨v, h1, rfl⟩ := Option.map_eq_some_iff.1 hf
      refine told_loadRow (t := t) (rows := k.rows) (j := r') (off := off) (d := d) ?_ hr h1
      simp only [loadRow, ho, hop, hdst, hd, if_true, hx, hk]
     ·simp at h
    ·simp at h
   ·simp at h
  ·rename_i t x y hop hdst
   split at h
   ·rename_i b r' off cv hx hy
    split at h
    ·rename_i k hk
     split at h
     ·rename_i hex
      simp only [Option.some.injEq, Prod.mk.injEq, true_and] at h
      obtain ⟨rfl, rfl, rfl⟩ := h
      obtain ⟨v, h1, rfl⟩ := Option.map_eq_some_iff.1 hf
      obtain ⟨oo, ho', hE⟩ := told_storeRowE (P := P) (G := G) (ops := ops) (i := i) (s := s) (ex := []) (t := t) (rows := k.rows) (j := r') (off := off) (b := b) (size := k.size) (c := cv) (by simp only [storeRow, ho, hop, hdst, hx, hy, hk, hex, if_true]) hr h1
      exact stepL_of ⟨oo, ho', fun s2 hn ht hbm hu => (hE s2 hn ht hbm hu).ghost (Gst.rowsT s2 b k.size true (fun bs u => RowsRel.set (fun c => CoeR.same c) _ _ (coe1_rel _ _)) [])⟩
     ·simp at h
    ·simp at h
   ·simp at h
  ·simp at h
 ·simp at h
theorem strip_map_d {α : Type} (ty : Ty α) (x : List α) : (x.map ty.d).map (·.map V.strip) = x.map ty.d := by
 rw [List.map_map]
 exact List.map_congr_left fun a _ => ty.st a
theorem appAt_of {ex : List Nat} {A : AppD} (h : appOp P G ops ex i s = some A) (hlen : A.len = A.rows.length) (hf : A.fl = true → A.srows.map (·.map V.strip) = A.srows) :
  ∃ off, appAt P G ops ex i s = some (A.d, ⟨A.b, 0, A.size, A.excl, A.rows⟩, ⟨A.sb, off, A.size, true, A.srows⟩, A.size, A.bytes, true) := by
 unfold appOp at h
 split at h
 ·rename_i o ho
  split at h
  ·rename_i as ts d hop hdst
   split at h
   ·rename_i hd
    split at h
    ·rename_i x' y' t t2 hxs hts
     split at h
     ·rename_i cx cy e e2 hx hy ht ht2
      split at h
      ·rename_i ei hi
       split at h
       ·rename_i hz
        split at h
        ·rename_i b rows len excl hds
         split at h
         ·rename_i sb srows fl hss
          simp only [Option.some.injEq] at h
          subst h
          simp only at hlen hf ⊢
          subst hlen
          have k1 : dstL (s.lookC o ex) ei.size cx = some (⟨b, 0, ei.size, excl, rows⟩, true) := by
           unfold appDst at hds
           unfold dstL
           split at hds
           ·simp only [Option.some.injEq, Prod.mk.injEq] at hds
            obtain ⟨rfl, rfl, h2, rfl⟩ := hds
            rfl
           ·rename_i b' len'
            split at hds
            ·rename_i k hk
             split at hds
             ·rename_i hsz
              simp only [Option.some.injEq, Prod.mk.injEq] at hds
              obtain ⟨rfl, rfl, rfl, rfl⟩ := hds
              simp only [hk]
              simp [hsz]
             ·simp at hds
            ·simp at hds
           ·simp at hds
          have k2 : ∃ off, srcL (s.lookC o ex) ei.size b cy = some (⟨sb, off, ei.size, true, srows⟩, true) := by
           unfold appSrc at hss
           unfold srcL
           split at hss
           ·simp only [Option.some.injEq, Prod.mk.injEq] at hss
            obtain ⟨rfl, rfl, h2⟩ := hss
            exact ⟨0, rfl⟩
           ·rename_i ow z rows'
            split at hss
            ·rename_i hzz
             simp only [Option.some.injEq, Prod.mk.injEq] at hss
             obtain ⟨rfl, rfl, rfl⟩ := hss
             exact ⟨0, by simp only [hf rfl, hzz, beq_self_eq_true]⟩
            ·simp at hss
           ·rename_i b' len'
            split at hss
            ·rename_i k hk
             split at hss
             ·rename_i hsz
              simp only [Option.some.injEq, Prod.mk.injEq] at hss
              obtain ⟨rfl, rfl, h2⟩ := hss
              refine ⟨0, ?_⟩
              obtain ⟨z1, z2, z3⟩ := hsz
              simp only [hk, if_neg z3]
              simp [z1, z2]
             ·simp at hss
            ·simp at hss
           ·simp at hss
          obtain ⟨off, k2⟩ := k2
          refine ⟨off, ?_⟩
          simp only [appAt, ho, hop, hdst, hd, and_self, if_true, hxs, hts, hx, hy, ht, ht2, hi, hz, k1, k2]
          rfl
         ·simp at h
        ·simp at h
       ·simp at h
      ·simp at h
     ·simp at h
    ·simp at h
   ·simp at h
  ·simp at h
 ·simp at h
theorem appOp_fl {ex : List Nat} {A : AppD} (h : appOp P G ops ex i s = some A) (e : A.fl = true) : A.sb = none := by
 unfold appOp at h
 split at h
 ·split at h
  ·split at h
   ·split at h
    ·split at h
     ·split at h
      ·split at h
       ·split at h
        ·split at h
         ·rename_i hss
          simp only [Option.some.injEq] at h
          subst h
          simp only at e ⊢
          subst e
          unfold appSrc at hss
          split at hss
          ·simp at hss
          ·split at hss <;> simp at hss
           exact hss.1.symm
          ·split at hss
           ·split at hss <;> simp at hss
           ·simp at hss
          ·simp at hss
         ·simp at h
        ·simp at h
       ·simp at h
      ·simp at h
     ·simp at h
    ·simp at h
   ·simp at h
  ·simp at h
 ·simp at h
theorem coeSrc_rel {bs : Nat → Option Blk} {u : Nat → Bool} (sy : List Nat) (sb : Option Nat) (e rows : List (List V)) : RowsRel (CoeR bs u) rows (coeSrc sy sb e rows) := by
 unfold coeSrc
 split
 ·split
  ·exact RowsRel.same (fun c => CoeR.same c) _
  ·exact coeR_rel _ _
 ·exact RowsRel.same (fun c => CoeR.same c) _
theorem appOp_spec {A : AppD} (h : appOp P G ops [] i s = some A) {α : Type} {ty : Ty α} {l x : List α} {sy : List Nat} (hr : A.rows = l.map ty.c) (hlen : A.len = l.length) (hs : coeSrc sy A.sb (x.map ty.c) A.srows = x.map ty.c) (hf : A.fl = true → A.sb = none ∧ ∀ y, ty.c y = ty.d y)
  (hb : (l.length + x.length) * A.bytes ≤ 140737488355328) :
  StepL P G ops i s (opR ops i s []) (delW A.b ++ (delW A.sb ++ [.b A.d (some ⟨A.size, A.excl, (l ++ x).map ty.c⟩), .t A.d (.ref A.d 0 (l ++ x).length)])) := by
 have hlx : A.srows.length = x.length := by
  have := (coeSrc_rel (bs := fun _ => none) (u := fun _ => false) sy A.sb (x.map ty.c) A.srows).1
  rw [hs] at this; simpa using this.symm
 obtain ⟨off, hat⟩ := appAt_of h (by rw [hlen, hr]; simp) (fun e => by
  obtain ⟨e0, e2⟩ := hf e
  have e1 : x.map ty.c = x.map ty.d := List.map_congr_left fun a _ => e2 a
  rw [e0] at hs
  have hs' : A.srows = x.map ty.c := hs
  rw [hs', e1, strip_map_d])
 obtain ⟨oo, ho, hE⟩ := told_appendE (ds := ⟨A.b, 0, A.size, A.excl, A.rows⟩) (ss := ⟨A.sb, off, A.size, true, A.srows⟩) (rows := l.map ty.c ++ A.srows) (m := (l ++ x).length) hat rfl (by simpa [hr, hlx] using hb) (by simp [hr]) (by simp [hr, hlx])
 refine stepL_of ⟨oo, ho, fun s2 hn ht hbm hu => (hE s2 hn ht hbm hu).ghost ?_⟩
 simp only
 rw [app_delW, app_delW, app_delW, app_delW]
 have := Gst.rowsT (G := G) ((s2.delO A.b).delO A.sb) A.d A.size A.excl (rows := l.map ty.c ++ A.srows) (rows' := (l ++ x).map ty.c) (fun bs u => by
  rw [List.map_append]
  refine RowsRel.append (RowsRel.same (fun c => CoeR.same c) _) ?_
  have := coeSrc_rel (bs := bs) (u := u) sy A.sb (x.map ty.c) A.srows
  rw [hs] at this; exact this) [(A.d, .ref A.d 0 (l ++ x).length)]
 exact this
theorem Evs.of {o : Oper} {s s2 : St} {x : Operand} {c : V} (hx : s.evC G o x = some c) (ht : ∀ t, t ∈ opTemps o → s2.t t = s.t t) : Evs G s2 x c := fun _ _ _ hs =>
 (hs.cutT (opTemps o)).ev (by rw [evC_agree ht]; exact hx)
theorem look_of {o : Oper} {s s2 : St} {ex : List Nat} {b : Nat} {k : Blk} (hk : s.lookC o ex b = some k) (hb : ∀ b, b ∈ opBs s o ++ ex → s2.b b = s.b b ∧ s2.u b = s.u b) : s2.b b = some k :=
 cutB_le s2.b (opBs s o ++ ex) b k (by rw [lookC_agree hb]; exact hk)
theorem takeOp_spec {col : Nat} {rows : List (List V)} {j : Nat} {f : List V → Option (List Wr)} {r : List V} {ws : List Wr} (h : takeOp P G ops col i s = some (rows, j, f)) (hr : rows[j]? = some r) (hf : f r = some ws) : StepL P G ops i s (opR ops i s []) ws := by
 unfold takeOp at h
 split at h
 ·rename_i o ho
  split at h
  ·rename_i t x d hop hdst
   split at h
   ·rename_i hd
    split at h
    ·rename_i b r' off hx
     split at h
     ·rename_i k hk
      split at h
      ·rename_i hag
       simp only [Option.some.injEq, Prod.mk.injEq] at h
       obtain ⟨rfl, rfl, rfl⟩ := h
       simp only at hf
       split at hf
       ·rename_i z rs hcell
        split at hf
        ·rename_i hzs
         simp only [Option.some.injEq] at hf
         subst hf
         refine stepL_of ⟨o, ho, fun s2 hn ht hb hu => ?_⟩
         exact effO_take hop hdst (by rw [hn]; exact hd.1) hag (Evs.of hx ht) (by rw [(hu d hdst).2]; exact hd.2) (look_of hk hb) hr hcell hzs
        ·simp at hf
       ·simp at hf
      ·rename_i hag
       split at h
       ·rename_i ti hti
        simp only [Option.some.injEq, Prod.mk.injEq] at h
        obtain ⟨rfl, rfl, rfl⟩ := h
        simp only at hf
        split at hf
        ·rename_i z rs hcell
         split at hf
         ·rename_i hcond
          simp only [Option.some.injEq] at hf
          subst hf
          refine stepL_of ⟨o, ho, fun s2 hn ht hb hu => ?_⟩
          exact effO_takeAgg hop hdst (by rw [hn]; exact hd.1) hti hag hcond.2.2.1 (Evs.of hx ht) (by rw [(hu d hdst).2]; exact hd.2) (look_of hk hb) hr hcell hcond.2.1 hcond.1 hcond.2.2.2
         ·simp at hf
        ·simp at hf
       ·simp at h
     ·simp at h
    ·simp at h
   ·simp at h
  ·simp at h
 ·simp at h
theorem nstOp_spec {α β : Type} {ty : Ty α} {ty2 : Ty β} {l : List α} {y : α} {o' : List β} {hole : List V} {col j : Nat} {b d2 off2 len : Nat} {kb kd : Blk} {row : List V} {fin : List (List V)} (h : nstOp P G ops hole fin col i s = some (b, kb, j, d2, kd, off2, len, row))
  (hrows : kb.rows = (l.map ty.c).set j hole) (hd : kd.rows = o'.map ty2.c) (hoff : off2 ≤ o'.length) (hlen : len = o'.length - off2) (hfin : fin = (o'.drop off2).map ty2.c) (hrow : row = ty.c y) (hj : j < l.length) :
  StepL P G ops i s (opR ops i s []) [.b b (some ⟨kb.size, true, (l.set j y).map ty.c⟩), .b d2 none] := by
 unfold nstOp at h
 split at h
 ·rename_i o ho
  split at h
  ·rename_i t x y' hop hdst
   split at h
   ·rename_i b' r off c hx hy
    split at h
    ·rename_i k hk
     split at h
     ·rename_i hex
      split at h
      ·rename_i r' hr'
       split at h
       ·rename_i d2' off2' len' hcell
        split at h
        ·rename_i kd' hkd
         split at h
         ·simp at h
         ·rename_i hbd0
          have hbd : ¬ b' = d2' := fun e => hbd0 (.inl e)
          have hzb : k.size < MAPS := Nat.lt_of_not_le fun e => hbd0 (.inr e)
          simp only [Option.some.injEq, Prod.mk.injEq] at h
          obtain ⟨rfl, rfl, rfl, rfl, rfl, rfl, rfl, rfl⟩ := h
          have hrow0 : k.rows[r]? = some hole := by rw [hrows]; simp [hj]
          obtain ⟨o2, ho2, hE⟩ := told_storeRowE (P := P) (G := G) (ops := ops) (s := s) (i := i) (ex := []) (t := t) (b := b') (size := k.size) (j := r) (off := off) (rows := k.rows) (r := hole) (r' := r') (c := c)
           (by simp only [storeRow, ho, hop, hdst, hx, hy, hk, hex, if_true]) hrow0 hr'
          rw [ho] at ho2
          simp only [Option.some.injEq] at ho2
          subst ho2
          refine stepL_of ⟨o, ho, fun s2 hn ht hb hu => ?_⟩
          have h1 := hE s2 hn ht hb hu
          refine h1.ghost ?_
          have b2 : s2.b b' = some k := look_of hk hb
          have hd2b : s2.b d2' = some kd' := look_of hkd hb
          have hri : r < k.rows.length := (List.getElem?_eq_some_iff.1 hrow0).1
          have hl : len' = kd'.rows.length - off2' := by rw [hlen, hd]; simp
          have hfin' : fin = kd'.rows.drop off2' := by rw [hfin, hd, List.map_drop]
          have nest := Gst.nest (G := G) (st := s2.app [.b b' (some ⟨k.size, true, k.rows.set r r'⟩)]) (b := b') (d := d2') (i := r) (j := col) (k := ⟨k.size, true, k.rows.set r r'⟩) (kd := kd') (row := r') hbd
           (by show (if b' = b' then _ else _) = _; rw [if_pos rfl]) hzb (by show (if d2' = b' then _ else s2.b d2') = _; rw [if_neg (fun e => hbd e.symm)]; exact hd2b) (by simp [hri]) (off := off2') (by rw [hd]; simpa using hoff) (by rw [← hl]; exact hcell) (by rw [hd]; exact ty2.data _)
          have e : ((s2.app [.b b' (some ⟨k.size, true, k.rows.set r r'⟩)]).setB b' ⟨k.size, true, (k.rows.set r r').set r (r'.set col (.sl true kd'.size (kd'.rows.drop off2')))⟩).delB d2' = s2.app [.b b' (some ⟨k.size, true, (l.set r y).map ty.c⟩), .b d2' none] := by
           have e1 : (k.rows.set r r').set r (r'.set col (.sl true kd'.size (kd'.rows.drop off2'))) = (l.set r y).map ty.c := by
            rw [List.set_set, ← hfin', hrow, hrows, List.set_set, List.map_set]
           rw [e1]
           refine St.ext' rfl fun loc => ?_
           cases loc with
           | t q => rfl
           | b q =>
            constructor
            ·show (if q = d2' then none else if q = b' then some _ else if q = b' then _ else s2.b q) = (if q = d2' then none else if q = b' then some _ else s2.b q)
             split; rfl; split; rfl; rfl
            ·show (if q = d2' then true else if q = b' then true else if q = b' then true else s2.u q) = (if q = d2' then true else if q = b' then true else s2.u q)
             split; rfl; split; rfl; rfl
          rw [← e]
          exact nest
        ·simp at h
       ·simp at h
      ·simp at h
     ·simp at h
    ·simp at h
   ·simp at h
  ·simp at h
 ·simp at h
theorem appOp_size {ex : List Nat} {A : AppD} (h : appOp P G ops ex i s = some A) : A.size < MAPS := by
 unfold appOp at h
 split at h
 ·split at h
  ·split at h
   ·split at h
    ·split at h
     ·split at h
      ·split at h
       ·rename_i hc
        split at h
        ·split at h
         ·simp only [Option.some.injEq] at h
          subst h
          obtain ⟨z, hz, hl⟩ := Option.map_eq_some_iff.1 hc.2
          show _ < MAPS
          rw [← hl]
          exact (smallL_spec hz).2
         ·simp at h
        ·simp at h
       ·simp at h
      ·simp at h
     ·simp at h
    ·simp at h
   ·simp at h
  ·simp at h
 ·simp at h
theorem appnOp_spec {A : AppD} {d2 : Nat} {kd : Blk} (h : appOp P G ops [d2] i s = some A) (hkd : s.b d2 = some kd) {α β : Type} {ty : Ty α} {ty2 : Ty β} {l : List α} {y : α} {o : List β} {col : Nat} (hr : A.rows = l.map ty.c) (hlen : A.len = l.length)
  (hs : A.srows = [(ty.c y).set col (.ref d2 0 o.length)]) (hf : A.fl = false) (h1 : A.d ≠ d2) (h2 : A.b ≠ some d2) (h3 : A.sb ≠ some d2) (hd : kd.rows = o.map ty2.c) (hcell : (ty.c y)[col]? = some (.sl true kd.size kd.rows))
  (hb : (l.length + 1) * A.bytes ≤ 140737488355328) :
  StepL P G ops i s (opR ops i s [d2]) (delW A.b ++ (delW A.sb ++ [.b A.d (some ⟨A.size, A.excl, (l ++ [y]).map ty.c⟩), .t A.d (.ref A.d 0 (l ++ [y]).length), .b d2 none])) := by
 obtain ⟨off, hat⟩ := appAt_of h (by rw [hlen, hr]; simp) (fun e => by rw [hf] at e; simp at e)
 obtain ⟨oo, ho, hE⟩ := told_appendE (ds := ⟨A.b, 0, A.size, A.excl, A.rows⟩) (ss := ⟨A.sb, off, A.size, true, A.srows⟩) (rows := l.map ty.c ++ [(ty.c y).set col (.ref d2 0 o.length)]) (m := (l ++ [y]).length) hat rfl (by simpa [hr, hs] using hb) (by simp [hr, hs]) (by simp [hr, hs])
 refine stepL_of ⟨oo, ho, fun s2 hn ht hbm hu => ?_⟩
 refine (hE s2 hn ht hbm hu).ghost ?_
 simp only at hE ⊢
 have dd : s2.b d2 = some kd := by rw [(hbm d2 (by simp)).1]; exact hkd
 have hcl : col < (ty.c y).length := (List.getElem?_eq_some_iff.1 hcell).1
 let K : Blk := ⟨A.size, A.excl, l.map ty.c ++ [(ty.c y).set col (.ref d2 0 o.length)]⟩
 let S1 := s2.app (delW A.b ++ (delW A.sb ++ [.b A.d (some K), .t A.d (.ref A.d 0 (l ++ [y]).length)]))
 have eS1 : S1 = (((s2.delO A.b).delO A.sb).setB A.d K).setT A.d (.ref A.d 0 (l ++ [y]).length) := by
  show s2.app _ = _
  rw [app_delW, app_delW]; rfl
 have bd : S1.b A.d = some K := by rw [eS1]; show (if A.d = A.d then some K else _) = _; rw [if_pos rfl]
 have bd2 : S1.b d2 = some kd := by
  rw [eS1]
  show (if d2 = A.d then some K else ((s2.delO A.b).delO A.sb).b d2) = _
  rw [if_neg (fun e => h1 e.symm), delO_b, if_neg h3, delO_b, if_neg h2]; exact dd
 have nest := Gst.nest (G := G) (st := S1) (b := A.d) (d := d2) (i := l.length) (j := col) (k := K) (kd := kd) (row := (ty.c y).set col (.ref d2 0 o.length)) h1 bd (appOp_size h) bd2 (by simp [K]) (off := 0) (Nat.zero_le _) (by rw [List.getElem?_set_self hcl, hd]; simp) (by rw [hd]; exact ty2.data _)
 rw [List.drop_zero] at nest
 have e1 : K.rows.set l.length (((ty.c y).set col (.ref d2 0 o.length)).set col (.sl true kd.size kd.rows)) = (l ++ [y]).map ty.c := by
  have : (ty.c y).set col (.sl true kd.size kd.rows) = ty.c y := by
   refine List.ext_getElem? fun q => ?_
   by_cases hq : q = col
   ·subst hq; rw [List.getElem?_set_self hcl]; exact hcell.symm
   ·rw [List.getElem?_set_ne (fun e => hq e.symm)]
  rw [List.set_set, this]
  simp only [K, List.map_append, List.map_cons, List.map_nil]
  rw [List.set_append_right _ _ (by simp)]
  simp
 have e2 : (S1.setB A.d { K with rows := K.rows.set l.length (((ty.c y).set col (.ref d2 0 o.length)).set col (.sl true kd.size kd.rows)) }).delB d2 =
   s2.app (delW A.b ++ (delW A.sb ++ [.b A.d (some ⟨A.size, A.excl, (l ++ [y]).map ty.c⟩), .t A.d (.ref A.d 0 (l ++ [y]).length), .b d2 none])) := by
  rw [e1, app_delW, app_delW, eS1]
  refine St.ext' rfl fun loc => ?_
  cases loc with
  | t q => rfl
  | b q =>
   constructor
   ·show (if q = d2 then none else if q = A.d then some _ else if q = A.d then _ else ((s2.delO A.b).delO A.sb).b q) = (if q = d2 then none else if q = A.d then some _ else ((s2.delO A.b).delO A.sb).b q)
    split; rfl; split; rfl; rfl
   ·show (if q = d2 then true else if q = A.d then true else if q = A.d then true else ((s2.delO A.b).delO A.sb).u q) = (if q = d2 then true else if q = A.d then true else ((s2.delO A.b).delO A.sb).u q)
    split; rfl; split; rfl; rfl
 rw [← e2]
 exact nest
theorem dcell_ren {c : V} (h : dcell c = true) (f : Nat → Nat) : renV f c = c := by
 cases c <;> simp_all [dcell, renV]
 obtain ⟨rfl, rfl⟩ := h
 simp [renL]
theorem dcell_refs {c : V} (h : dcell c = true) : refsV c = [] := by
 cases c <;> simp_all [dcell, refsV]
 obtain ⟨rfl, rfl⟩ := h
 simp [refsL]
theorem dcell_okV {c : V} (h : dcell c = true) (u : Nat → Bool) : okV u c = true := by
 cases c <;> simp_all [dcell, okV]
 obtain ⟨rfl, rfl⟩ := h
 simp [okL]
theorem DataRows.ren {k : Blk} (h : DataRows k.rows) (f : Nat → Nat) : k.ren f = k := by
 unfold Blk.ren
 have : k.rows.map (renL f) = k.rows := by
  have : ∀ l : List (List V), DataRows l → l.map (renL f) = l := by
   intro l hl
   induction l with
   | nil => rfl
   | cons r l ih =>
    rw [List.map_cons, ih fun r' hr' => hl r' (by simp [hr'])]
    congr 1
    rw [renL_eq]
    conv => rhs; rw [← List.map_id r]
    exact List.map_congr_left fun c hc => dcell_ren (hl r (by simp) c hc) f
  exact this _ h
 rw [this]
theorem DataRows.refs {rows : List (List V)} (h : DataRows rows) : refsL rows.flatten = [] := by
 have : ∀ l : List V, (∀ c, c ∈ l → dcell c = true) → refsL l = [] := by
  intro l hl
  induction l with
  | nil => rfl
  | cons c l ih => simp only [refsL, dcell_refs (hl c (by simp)), ih fun c' hc' => hl c' (by simp [hc']), List.append_nil]
 refine this _ fun c hc => ?_
 obtain ⟨r, h1, h2⟩ := List.mem_flatten.1 hc
 exact h r h1 c h2
def SyOk (sy : List Nat) (s : St) : Prop := ∀ b, b ∈ sy → ∀ k, s.b b = some k → DataRows k.rows
theorem renB_eq {dt : List Nat} {b : Nat} {f : Nat → Nat} {k : Blk} (h : b ∈ dt → DataRows k.rows) : renB dt b f k = k.ren f := by
 unfold renB
 split
 ·rename_i hc; exact ((h (by simpa using hc)).ren f).symm
 ·rfl
theorem callOp_spec {Li Lo : List (Nat × Nat)} {sy : List Nat} {dst : Option Nat} {f : FuncId} {as : List V} {I : List (Nat × Blk)} (hsy : SyOk sy s) (h : callOp P G ops Li Lo sy i s = some (dst, f, as, I)) {O : List (Nat × Blk)} {res : V}
  {dt : List Nat} (hdt : ∀ p, p ∈ O → p.1 ∈ dt → DataRows p.2.rows) (hc : CallC P G f as (ofL I) res (ofL O)) (ho : outsOk (Li ++ Lo) dt O res = true) :
  StepL P G ops i s (opR ops i s ((Li ++ Lo).map (·.2))) (callWs (Li ++ Lo) dt O dst res) := by
 unfold callOp at h
 split at h
 ·rename_i dst' f' as' bl shl hcg
  split at h
  ·rename_i hcond
   simp only [Option.some.injEq, Prod.mk.injEq] at h
   obtain ⟨rfl, rfl, rfl, rfl⟩ := h
   simp only [Bool.and_eq_true, List.all_eq_true, Bool.or_eq_true] at hcond
   obtain ⟨hids, hbl⟩ := hcond
   have hids' := hids
   simp only [idsOk, Bool.and_eq_true, List.all_eq_true, beq_iff_eq, decide_eq_true_eq, Bool.not_eq_true'] at hids'
   obtain ⟨⟨⟨i1, i2⟩, i3⟩, i4⟩ := hids'

   have hblk : ∀ x, x ∈ bl → sy.contains (toCaller (Li ++ Lo) x.1) = true → DataRows x.2.rows := by
    intro x hx hs
    simp only [callG] at hcg
    split at hcg
    ·rename_i o ff cs hca
     split at hcg
     ·rename_i shl' bl' hsh hb'
      split at hcg
      ·simp only [Option.some.injEq, Prod.mk.injEq] at hcg
       obtain ⟨-, -, -, rfl, -⟩ := hcg
       obtain ⟨n, hn⟩ := List.mem_iff_getElem?.1 hx
       obtain ⟨y, y1, y2⟩ := mapO_get hb' n x hn
       obtain ⟨k, k1, rfl⟩ := Option.map_eq_some_iff.1 y2
       have hy := List.mem_of_getElem? y1
       have e : toCaller (Li ++ Lo) y.1 = y.2 := (i1 y (List.mem_append_left _ hy)).1.1
       simp only [e] at hs
       exact hsy y.2 (by simpa using hs) k (cutB_le _ _ _ _ k1)
      ·simp at hcg
     ·simp at hcg
    ·simp at hcg
   have eI : (bl.map fun x => (x.1, renB sy (toCaller (Li ++ Lo) x.1) (toCallee (Li ++ Lo)) x.2)) = bl.map fun x => (x.1, x.2.ren (toCallee (Li ++ Lo))) :=
    List.map_congr_left fun x hx => by rw [renB_eq fun hm => hblk x hx (by simpa using hm)]
   simp only [outsOk, Bool.and_eq_true, List.all_eq_true, Bool.or_eq_true] at ho
   have hshl : shl = [] := by
    simp only [callG] at hcg
    split at hcg
    ·split at hcg
     ·rename_i hsh _
      split at hcg
      ·simp only [Option.some.injEq, Prod.mk.injEq] at hcg
       simp only [mapO, Option.some.injEq] at hsh
       rw [← hcg.2.2.2.2, ← hsh]
      ·simp at hcg
     ·simp at hcg
    ·simp at hcg
   subst hshl
   refine told_call Li Lo [] hids hcg hc eI.symm (by simp) (fun x hx b hb => ?_) (fun x hx => ⟨(ho.1 x hx).1, fun b hb => ?_⟩) (by simpa [anyC] using ho.2) ?_
   ·rcases hbl x hx with h1 | h1
    ·rw [(hblk x hx h1).refs] at hb; simp at hb
    ·exact h1 b hb
   ·rcases (ho.1 x hx).2 with h1 | h1
    ·rw [(hdt x hx (by simpa using h1)).refs] at hb; simp at hb
    ·exact h1 b hb
   ·unfold callWs outW
    simp only [List.map_nil, List.append_nil, List.map_map]
    congr 1
    refine List.map_congr_left fun x hx => ?_
    simp only [Function.comp]
    congr 1
    cases hO : ofL O x.1 with
    | none => rfl
    | some k =>
     simp only [Option.map_some]
     rw [renB_eq fun hm => hdt _ (ofL_some hO) hm]
  ·simp at h
 ·simp at h
end
end Go.EV
