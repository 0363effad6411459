/- A NAT that lets something out stays valid. No conditions but those. -/
import Derived.Test.YtdiagiflihpidaaDoorE5
namespace Go.Proofs.YtdiagiflihpidaaDoor
open Go Go.EV
set_option maxRecDepth 100000

theorem allB_iff {n : SNat} {l : List SBinding} : AllB n l ↔ (∀ b, b ∈ l → BindOk n b ∧ OpenOk n b.fOpen) ∧ Apart l := by
  constructor
  · intro h
    refine ⟨fun b hb => ?_, apart_of_all h⟩
    obtain ⟨i, hi⟩ := List.mem_iff_getElem?.1 hb
    exact ⟨(h i b hi).1, (h i b hi).2.1⟩
  · rintro ⟨h1, h2⟩ i b hi
    refine ⟨(h1 b (List.mem_of_getElem? hi)).1, (h1 b (List.mem_of_getElem? hi)).2, fun j hj y hy ha => ?_⟩
    have := apart_idx h2 hi hy ha
    omega

def sig (b : SBinding) : Int × SAddr × SAddr := (b.fPort, b.fInside, b.fPeer)

theorem apart_sig {l : List SBinding} : Apart l ↔ (l.map sig).Pairwise fun p q => ¬ (q.1 = p.1 ∨ (q.2.1 = p.2.1 ∧ q.2.2 = p.2.2)) := by
  rw [List.pairwise_map]
  exact Iff.rfl

theorem apart_set {t : List SBinding} {j : Nat} {x u : SBinding} (h : Apart t) (hx : t[j]? = some x) (hu : sig u = sig x) : Apart (t.set j u) := by
  rw [apart_sig] at h ⊢
  have e : (t.set j u).map sig = t.map sig := by
    refine List.ext_getElem? fun i => ?_
    rw [List.getElem?_map, List.getElem?_map, List.getElem?_set]
    split
    · rename_i hij
      subst hij
      rw [hx, if_pos (List.getElem?_eq_some_iff.1 hx).1]
      simp [hu]
    · rfl
  rw [e]; exact h

theorem apart_app {l : List SBinding} {x : SBinding} (h : Apart l) (hx : ∀ y, y ∈ l → ¬ Alike x y) : Apart (l ++ [x]) := by
  refine List.pairwise_append.2 ⟨h, List.pairwise_singleton _ _, fun y hy z hz => ?_⟩
  rw [List.mem_singleton.1 hz]
  exact hx y hy

theorem isKey_keyOf {k m : Int} {a : SAddr} (hu : Usable a m) : IsKey k (keyOf k a) m := by
  unfold IsKey keyOf
  by_cases h1 : k = 1
  · exact .inl ⟨h1, by rw [if_pos h1]⟩
  · by_cases h2 : k = 2
    · rw [if_neg h1, if_pos h2]
      exact .inr (.inl ⟨h2, rfl, hu.1, by simp, by simp⟩)
    · rw [if_neg h1, if_neg h2]
      exact .inr (.inr ⟨h1, h2, hu⟩)

theorem allK_iff {k m : Int} {l : List SAddr} : AllK k l m ↔ (∀ a, a ∈ l → IsKey k a m) ∧ l.Nodup := by
  constructor
  · intro h
    refine ⟨fun a ha => ?_, List.pairwise_iff_getElem.2 fun i j hi hj hij e => ?_⟩
    · obtain ⟨i, hi⟩ := List.mem_iff_getElem?.1 ha
      exact (h i a hi).1
    · exact (h j l[j] (List.getElem?_eq_getElem hj)).2 i hij (by rw [List.getElem?_eq_getElem hi, e])
  · rintro ⟨h1, h2⟩ i a hi
    refine ⟨h1 a (List.mem_of_getElem? hi), fun j hj hja => ?_⟩
    obtain ⟨i1, i2⟩ := List.getElem?_eq_some_iff.1 hi
    obtain ⟨j1, j2⟩ := List.getElem?_eq_some_iff.1 hja
    exact List.pairwise_iff_getElem.1 h2 j i j1 i1 hj (by rw [i2, j2])

theorem open_new {n : SNat} {b : SAddr} {o : List SAddr} (hu : Usable b (n.fHost.size : Int)) (ho : OpenOk n o ∨ o = []) : OpenOk n (newOpen n b o) := by
  unfold newOpen
  by_cases hf : n.fFilter = 1
  · rw [if_pos (.inl hf)]
    rcases ho with ho | ho
    · exact ho
    · rw [ho]; exact .inl ⟨hf, rfl⟩
  · have hk : o.length ≤ 16 ∧ AllK n.fFilter o (n.fHost.size : Int) := by
      rcases ho with (h | h) | h
      · exact absurd h.1 hf
      · exact ⟨h.2.2.1, h.2.2.2⟩
      · rw [h]; exact ⟨by simp, fun i a hi => by simp at hi⟩
    rw [allK_iff] at hk
    by_cases hm : keyOf n.fFilter b ∈ o
    · rw [if_pos (.inr hm)]
      rcases ho with ho | ho
      · exact ho
      · rw [ho] at hm; simp at hm
    · rw [if_neg (fun h => h.elim hf hm)]
      refine .inr ⟨hf, by simp; omega, by simp; omega, allK_iff.2 ⟨fun a ha => ?_, ?_⟩⟩
      · rcases List.mem_append.1 (List.mem_of_mem_drop ha) with ha | ha
        · exact hk.2.1 a ha
        · rw [List.mem_singleton.1 ha]; exact isKey_keyOf hu
      · refine List.Nodup.sublist (List.drop_sublist _ _) ?_
        refine List.pairwise_append.2 ⟨hk.2.2, List.pairwise_singleton _ _, fun y hy z hz e => ?_⟩
        rw [List.mem_singleton.1 hz] at e
        exact hm (e ▸ hy)

theorem mem_new {n : SNat} {b : SAddr} (o : List SAddr) (hf : n.fFilter ≠ 1) : keyOf n.fFilter b ∈ newOpen n b o := by
  unfold newOpen
  by_cases hm : keyOf n.fFilter b ∈ o
  · rw [if_pos (.inr hm)]; exact hm
  · rw [if_neg (fun h => h.elim hf hm), List.drop_append]
    exact List.mem_append.2 (.inr (by rw [show o.length + 1 - 16 - o.length = 0 from by omega]; simp))

theorem keep_bind {n : SNat} {now : Int} {b : SBinding} (hv : Valid n) (h1 : n.fNow ≤ now) (h2 : now ≤ 1099511627776) (hb : b ∈ keep now n.fTable) : BindOk (atT n now) b ∧ OpenOk (atT n now) b.fOpen := by
  obtain ⟨hm, hu⟩ := List.mem_filter.1 hb
  obtain ⟨⟨k1, k2, k3, k4, k5, k6, k7⟩, k8⟩ := (allB_iff.1 hv.2).1 b hm
  have ht := hv.1.2.2.1
  have hn := hv.1.2.2.2.2.2
  rw [wi64_id (by omega) (by omega)] at k7
  refine ⟨⟨k1, k2, k3, k4, k5, (by simpa using hu : now < b.fUntil), ?_⟩, k8⟩
  show b.fUntil ≤ wi64 (now + n.fTimeout)
  rw [wi64_id (by omega) (by omega)]
  omega

theorem valid_at {n : SNat} {now : Int} (hv : Valid n) (h1 : n.fNow ≤ now) (h2 : now ≤ 1099511627776) : Valid (atT n now) := by
  refine ⟨⟨hv.1.1, hv.1.2.1, hv.1.2.2.1, hv.1.2.2.2.1, hv.1.2.2.2.2.1, ?_, h2⟩, allB_iff.2 ⟨fun b hb => keep_bind hv h1 h2 hb, apart_keep (allB_iff.1 hv.2).2 now⟩⟩
  have := hv.1.2.2.2.2.2.1
  show 0 ≤ now
  omega

/-- The NAT that Out gives. -/
noncomputable def outN (n : SNat) (now : Int) (b : SAddr) (t : List SBinding) (j : Nat) (x : SBinding) : SNat :=
  ⟨n.fMapping, n.fFilter, n.fTimeout, n.fHairpin, n.fHost, n.fLow, n.fHigh, now, t.set j (upd (atT n now) b x)⟩

theorem base_apart {n : SNat} {now : Int} {a b : SAddr} {t : List SBinding} {j : Nat} {x : SBinding} (hv : Valid n) (hb : Base (atT n now) a b t j x) : Apart t := by
  have ha : Apart (atT n now).fTable := apart_keep (allB_iff.1 hv.2).2 now
  rcases hb with ⟨rfl, _⟩ | ⟨hno, p, hfree, rfl, rfl, _⟩
  · exact ha
  · refine apart_app ha fun y hy hal => ?_
    rcases hfree with ⟨k, _, _, hp, hnt, _⟩ | ⟨h, _⟩
    · simp only [Option.some.injEq] at hp
      rcases hal with hal | hal
      · exact hnt ⟨y, hy, by rw [← hp]; exact hal.symm⟩
      · exact hno y hy ⟨hal.1.symm, hal.2.symm⟩
    · simp at h

theorem base_is {n : SNat} {a b : SAddr} {t : List SBinding} {j : Nat} {x : SBinding} (hb : Base n a b t j x) : x.fInside = a ∧ x.fPeer = keyOf n.fMapping b := by
  rcases hb with ⟨_, _, h⟩ | ⟨_, p, _, rfl, _, _⟩
  · exact h
  · exact ⟨rfl, rfl⟩

theorem upd_bind {n : SNat} {now : Int} {a b : SAddr} {t : List SBinding} {j : Nat} {x : SBinding} (hv : Valid n) (ht : Time n now [a, b]) (hh : a.fHost ≠ n.fHost) (hb : Base (atT n now) a b t j x) :
    BindOk (atT n now) (upd (atT n now) b x) ∧ OpenOk (atT n now) (upd (atT n now) b x).fOpen := by
  obtain ⟨h1, h2, h3⟩ := ht
  have ha := h3 a (by simp)
  have hbb := h3 b (by simp)
  have htm := hv.1.2.2.1
  have hn := hv.1.2.2.2.2.2
  have hp := ports_of hv now
  have hw : wi64 (now + n.fTimeout) = now + n.fTimeout := wi64_id (by omega) (by omega)
  have hi := base_is hb
  have hport : n.fLow ≤ x.fPort ∧ x.fPort ≤ n.fHigh := by
    rcases hb with ⟨_, hx, _⟩ | ⟨_, p, hf, rfl, _, _⟩
    · have := (keep_bind hv h1 h2 (List.mem_of_getElem? hx)).1
      exact ⟨this.2.2.2.1, this.2.2.2.2.1⟩
    · rcases hf with ⟨k, k0, k1, hk, _⟩ | ⟨h, _⟩
      · simp only [Option.some.injEq] at hk
        have := port_in hp (own := a.fPort) k0 k1
        show n.fLow ≤ p ∧ p ≤ n.fHigh
        rw [hk]; exact this
      · simp at h
  refine ⟨⟨?_, ?_, ?_, hport.1, hport.2, ?_, ?_⟩, ?_⟩
  · show Usable x.fInside _; rw [hi.1]; exact ha
  · show x.fInside.fHost ≠ _; rw [hi.1]; exact hh
  · show IsKey _ x.fPeer _; rw [hi.2]; exact isKey_keyOf hbb
  · show now < wi64 (now + n.fTimeout); omega
  · exact Int.le_refl _
  · refine open_new hbb ?_
    rcases hb with ⟨_, hx, _⟩ | ⟨_, p, _, rfl, _, _⟩
    · exact .inl (keep_bind hv h1 h2 (List.mem_of_getElem? hx)).2
    · exact .inr rfl

theorem valid_out {n : SNat} {now : Int} {a b : SAddr} {t : List SBinding} {j : Nat} {x : SBinding} (hv : Valid n) (ht : Time n now [a, b]) (hh : a.fHost ≠ n.fHost) (hb : Base (atT n now) a b t j x) : Valid (outN n now b t j x) := by
  have hat := valid_at hv ht.1 ht.2.1
  refine ⟨hat.1, allB_iff.2 ⟨fun y hy => ?_, apart_set (base_apart hv hb) hb.at rfl⟩⟩
  obtain ⟨i, hi⟩ := List.mem_iff_getElem?.1 hy
  have hi' : (t.set j (upd (atT n now) b x))[i]? = some y := hi
  rw [List.getElem?_set] at hi'
  split at hi'
  · rename_i hij
    subst hij
    rw [if_pos (List.getElem?_eq_some_iff.1 hb.at).1] at hi'
    simp only [Option.some.injEq] at hi'
    subst hi'
    exact upd_bind hv ht hh hb
  · rename_i hij
    have hk : y ∈ keep now n.fTable := by
      rcases hb with ⟨rfl, _⟩ | ⟨_, p, _, rfl, rfl, rfl⟩
      · exact List.mem_of_getElem? hi'
      · have hlt := (List.getElem?_eq_some_iff.1 hi').1
        simp only [List.length_append, List.length_singleton] at hlt
        rw [List.getElem?_append_left (by omega)] at hi'
        exact List.mem_of_getElem? hi'
    exact keep_bind hv ht.1 ht.2.1 hk

end Go.Proofs.YtdiagiflihpidaaDoor
