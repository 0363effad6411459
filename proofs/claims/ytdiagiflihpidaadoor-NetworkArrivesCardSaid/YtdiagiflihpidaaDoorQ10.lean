/- A NAT that lets something out stays valid. No conditions but those.
   The drafted NAT: it is valid, and of one kind. Conditions: numbers of eight and sixteen bits are such.
   What network and its reference hold for a valid network: one condition for both. Conditions: lists no longer than a machine holds.
   A valid network is found valid, by network and by its reference. Conditions: the network is valid.
   The first packet, the host at a place, and the reference's finding valid. Conditions: the network is valid.
   Guides and contracts, printed by a program.
   The deliveries up to a time: a range over a function, put together by hand.
   A step of a valid network: what it comes to; the network stays valid. Conditions: the network is valid.
   A step of a valid network, as the program makes it; the network stays valid. Conditions: the network is valid.
   Guides and contracts, printed by a program.
   A valid network stays valid, step by step; running is making steps. Conditions: the network is valid.
   What sending comes to, by network and by its reference; the network stays valid. Conditions: the network is valid.
   Sending, as network and as its reference make it. Conditions: the network is valid.
   The network of a draft, before anything was sent: it is valid. Conditions: the draft's numbers are octets and the like.
   The reference's Send and Step keep a network valid; the network of a draft is valid, and its time is small. Conditions: the draft's numbers are octets and the like.
   Guides and contracts, printed by a program.
   Guides and contracts, printed by a program.
   Running to a time and then to a later one; running is making steps. Conditions: the draft's numbers are octets and the like.
   Guides and contracts, printed by a program.
   Guides and contracts, printed by a program.
   Guides and contracts, printed by a program.
   A host behind a NAT is reached from outside by replies only. Conditions: the draft's numbers are octets and the like.
   Networks without NATs and losses: what is sent stands in the queue, and running hands out all of it, each sender's in order. Conditions: none but valid networks. -/
import Derived.Test.YtdiagiflihpidaaDoorQ9
import Derived.Test.YtdiagiflihpidaaDoorQ6
import Derived.Test.YtdiagiflihpidaaDoorQ7
import Derived.KernelRfl
namespace Go.Proofs.YtdiagiflihpidaaDoor
open Go Go.EV
set_option maxRecDepth 100000
theorem allB_iff {n : SNat} {l : List SBinding} : AllB n l ↔ (∀ b, b ∈ l → BindOk n b ∧ OpenOk n b.fOpen) ∧ Apart l := by
 constructor
 ·intro h
  refine ⟨fun b hb => ?_, apart_of_all h⟩
  obtain ⟨i, hi⟩ := List.mem_iff_getElem?.1 hb
  exact ⟨(h i b hi).1, (h i b hi).2.1⟩
 ·rintro ⟨h1, h2⟩ i b hi
  refine ⟨(h1 b (List.mem_of_getElem? hi)).1, (h1 b (List.mem_of_getElem? hi)).2, fun j hj y hy ha => ?_⟩
  have := apart_idx h2 hi hy ha
  omega
def sig (b : SBinding) : Int × SAddr × SAddr := (b.fPort, b.fInside, b.fPeer)
theorem apart_sig {l : List SBinding} : Apart l ↔ (l.map sig).Pairwise fun p q => ¬ (q.1 = p.1 ∨ (q.2.1 = p.2.1 ∧ q.2.2 = p.2.2)) := by
 rw [List.pairwise_map]
 exact Iff.rfl
theorem apart_set {t : List SBinding} {j : Nat} {x u : SBinding} (h : Apart t) (hx : t[j]? = some x) (hu : sig u = sig x) : Apart (t.set j u) := by
 rw [apart_sig] at h ⊢
 have e : (t.set j u).map sig = t.map sig := by
  refine List.ext_getElem? fun i => ?_
  rw [List.getElem?_map, List.getElem?_map, List.getElem?_set]
  split
  ·rename_i hij
   subst hij
   rw [hx, if_pos (List.getElem?_eq_some_iff.1 hx).1]
   simp [hu]
  ·rfl
 rw [e]; exact h
theorem apart_app {l : List SBinding} {x : SBinding} (h : Apart l) (hx : ∀ y, y ∈ l → ¬ Alike x y) : Apart (l ++ [x]) := by
 refine List.pairwise_append.2 ⟨h, List.pairwise_singleton _ _, fun y hy z hz => ?_⟩
 rw [List.mem_singleton.1 hz]
 exact hx y hy
theorem isKey_keyOf {k m : Int} {a : SAddr} (hu : Usable a m) : IsKey k (keyOf k a) m := by
 unfold IsKey keyOf
 by_cases h1 : k = 1
 ·exact .inl ⟨h1, by rw [if_pos h1]⟩
 ·by_cases h2 : k = 2
  ·rw [if_neg h1, if_pos h2]
   exact .inr (.inl ⟨h2, rfl, hu.1, by simp, by simp⟩)
  ·rw [if_neg h1, if_neg h2]
   exact .inr (.inr ⟨h1, h2, hu⟩)
theorem allK_iff {k m : Int} {l : List SAddr} : AllK k l m ↔ (∀ a, a ∈ l → IsKey k a m) ∧ l.Nodup := by
 constructor
 ·intro h
  refine ⟨fun a ha => ?_, List.pairwise_iff_getElem.2 fun i j hi hj hij e => ?_⟩
  ·obtain ⟨i, hi⟩ := List.mem_iff_getElem?.1 ha
   exact (h i a hi).1
  ·exact (h j l[j] (List.getElem?_eq_getElem hj)).2 i hij (by rw [List.getElem?_eq_getElem hi, e])
 ·rintro ⟨h1, h2⟩ i a hi
  refine ⟨h1 a (List.mem_of_getElem? hi), fun j hj hja => ?_⟩
  obtain ⟨i1, i2⟩ := List.getElem?_eq_some_iff.1 hi
  obtain ⟨j1, j2⟩ := List.getElem?_eq_some_iff.1 hja
  exact List.pairwise_iff_getElem.1 h2 j i j1 i1 hj (by rw [i2, j2])
theorem open_new {n : SNat} {b : SAddr} {o : List SAddr} (hu : Usable b (n.fHost.size : Int)) (ho : OpenOk n o ∨ o = []) : OpenOk n (newOpen n b o) := by
 unfold newOpen
 by_cases hf : n.fFilter = 1
 ·rw [if_pos (.inl hf)]
  rcases ho with ho | ho
  ·exact ho
  ·rw [ho]; exact .inl ⟨hf, rfl⟩
 ·have hk : o.length ≤ 16 ∧ AllK n.fFilter o (n.fHost.size : Int) := by
   rcases ho with (h | h) | h
   ·exact absurd h.1 hf
   ·exact ⟨h.2.2.1, h.2.2.2⟩
   ·rw [h]; exact ⟨by simp, fun i a hi => by simp at hi⟩
  rw [allK_iff] at hk
  by_cases hm : keyOf n.fFilter b ∈ o
  ·rw [if_pos (.inr hm)]
   rcases ho with ho | ho
   ·exact ho
   ·rw [ho] at hm; simp at hm
  ·rw [if_neg (fun h => h.elim hf hm)]
   refine .inr ⟨hf, by simp; omega, by simp; omega, allK_iff.2 ⟨fun a ha => ?_, ?_⟩⟩
   ·rcases List.mem_append.1 (List.mem_of_mem_drop ha) with ha | ha
    ·exact hk.2.1 a ha
    ·rw [List.mem_singleton.1 ha]; exact isKey_keyOf hu
   ·refine List.Nodup.sublist (List.drop_sublist _ _) ?_
    refine List.pairwise_append.2 ⟨hk.2.2, List.pairwise_singleton _ _, fun y hy z hz e => ?_⟩
    rw [List.mem_singleton.1 hz] at e
    exact hm (e ▸ hy)
theorem keep_bind {n : SNat} {now : Int} {b : SBinding} (hv : Valid n) (h1 : n.fNow ≤ now) (h2 : now ≤ 1099511627776) (hb : b ∈ keep now n.fTable) : BindOk (atT n now) b ∧ OpenOk (atT n now) b.fOpen := by
 obtain ⟨hm, hu⟩ := List.mem_filter.1 hb
 obtain ⟨⟨k1, k2, k3, k4, k5, k6, k7⟩, k8⟩ := (allB_iff.1 hv.2).1 b hm
 have ht := hv.1.2.2.1
 have hn := hv.1.2.2.2.2.2
 rw [wi64_id (by omega) (by omega)] at k7
 refine ⟨⟨k1, k2, k3, k4, k5, (by simpa using hu : now < b.fUntil), ?_⟩, k8⟩
 show b.fUntil ≤ wi64 (now + n.fTimeout)
 rw [wi64_id (by omega) (by omega)]
 omega
theorem valid_at {n : SNat} {now : Int} (hv : Valid n) (h1 : n.fNow ≤ now) (h2 : now ≤ 1099511627776) : Valid (atT n now) := by
 refine ⟨⟨hv.1.1, hv.1.2.1, hv.1.2.2.1, hv.1.2.2.2.1, hv.1.2.2.2.2.1, ?_, h2⟩, allB_iff.2 ⟨fun b hb => keep_bind hv h1 h2 hb, apart_keep (allB_iff.1 hv.2).2 now⟩⟩
 have := hv.1.2.2.2.2.2.1
 show 0 ≤ now
 omega
noncomputable def outN (n : SNat) (now : Int) (b : SAddr) (t : List SBinding) (j : Nat) (x : SBinding) : SNat :=
 ⟨n.fMapping, n.fFilter, n.fTimeout, n.fHairpin, n.fHost, n.fLow, n.fHigh, now, t.set j (upd (atT n now) b x)⟩
theorem base_apart {n : SNat} {now : Int} {a b : SAddr} {t : List SBinding} {j : Nat} {x : SBinding} (hv : Valid n) (hb : Base (atT n now) a b t j x) : Apart t := by
 have ha : Apart (atT n now).fTable := apart_keep (allB_iff.1 hv.2).2 now
 rcases hb with ⟨rfl, _⟩ | ⟨hno, p, hfree, rfl, rfl, _⟩
 ·exact ha
 ·refine apart_app ha fun y hy hal => ?_
  rcases hfree with ⟨k, _, _, hp, hnt, _⟩ | ⟨h, _⟩
  ·simp only [Option.some.injEq] at hp
   rcases hal with hal | hal
   ·exact hnt ⟨y, hy, by rw [← hp]; exact hal.symm⟩
   ·exact hno y hy ⟨hal.1.symm, hal.2.symm⟩
  ·simp at h
theorem base_is {n : SNat} {a b : SAddr} {t : List SBinding} {j : Nat} {x : SBinding} (hb : Base n a b t j x) : x.fInside = a ∧ x.fPeer = keyOf n.fMapping b := by
 rcases hb with ⟨_, _, h⟩ | ⟨_, p, _, rfl, _, _⟩
 ·exact h
 ·exact ⟨rfl, rfl⟩
theorem upd_bind {n : SNat} {now : Int} {a b : SAddr} {t : List SBinding} {j : Nat} {x : SBinding} (hv : Valid n) (ht : Time n now [a, b]) (hh : a.fHost ≠ n.fHost) (hb : Base (atT n now) a b t j x) :
  BindOk (atT n now) (upd (atT n now) b x) ∧ OpenOk (atT n now) (upd (atT n now) b x).fOpen := by
 obtain ⟨h1, h2, h3⟩ := ht
 have ha := h3 a (by simp)
 have hbb := h3 b (by simp)
 have htm := hv.1.2.2.1
 have hn := hv.1.2.2.2.2.2
 have hp := ports_of hv now
 have hw : wi64 (now + n.fTimeout) = now + n.fTimeout := wi64_id (by omega) (by omega)
 have hi := base_is hb
 have hport : n.fLow ≤ x.fPort ∧ x.fPort ≤ n.fHigh := by
  rcases hb with ⟨_, hx, _⟩ | ⟨_, p, hf, rfl, _, _⟩
  ·have := (keep_bind hv h1 h2 (List.mem_of_getElem? hx)).1
   exact ⟨this.2.2.2.1, this.2.2.2.2.1⟩
  ·rcases hf with ⟨k, k0, k1, hk, _⟩ | ⟨h, _⟩
   ·simp only [Option.some.injEq] at hk
    have := port_in hp (own := a.fPort) k0 k1
    show n.fLow ≤ p ∧ p ≤ n.fHigh
    rw [hk]; exact this
   ·simp at h
 refine ⟨⟨?_, ?_, ?_, hport.1, hport.2, ?_, ?_⟩, ?_⟩
 ·show Usable x.fInside _; rw [hi.1]; exact ha
 ·show x.fInside.fHost ≠ _; rw [hi.1]; exact hh
 ·show IsKey _ x.fPeer _; rw [hi.2]; exact isKey_keyOf hbb
 ·show now < wi64 (now + n.fTimeout); omega
 ·exact Int.le_refl _
 ·refine open_new hbb ?_
  rcases hb with ⟨_, hx, _⟩ | ⟨_, p, _, rfl, _, _⟩
  ·exact .inl (keep_bind hv h1 h2 (List.mem_of_getElem? hx)).2
  ·exact .inr rfl
theorem valid_out {n : SNat} {now : Int} {a b : SAddr} {t : List SBinding} {j : Nat} {x : SBinding} (hv : Valid n) (ht : Time n now [a, b]) (hh : a.fHost ≠ n.fHost) (hb : Base (atT n now) a b t j x) : Valid (outN n now b t j x) := by
 have hat := valid_at hv ht.1 ht.2.1
 refine ⟨hat.1, allB_iff.2 ⟨fun y hy => ?_, apart_set (base_apart hv hb) hb.at rfl⟩⟩
 obtain ⟨i, hi⟩ := List.mem_iff_getElem?.1 hy
 have hi' : (t.set j (upd (atT n now) b x))[i]? = some y := hi
 rw [List.getElem?_set] at hi'
 split at hi'
 ·rename_i hij
  subst hij
  rw [if_pos (List.getElem?_eq_some_iff.1 hb.at).1] at hi'
  simp only [Option.some.injEq] at hi'
  subst hi'
  exact upd_bind hv ht hh hb
 ·rename_i hij
  have hk : y ∈ keep now n.fTable := by
   rcases hb with ⟨rfl, _⟩ | ⟨_, p, _, rfl, rfl, rfl⟩
   ·exact List.mem_of_getElem? hi'
   ·have hlt := (List.getElem?_eq_some_iff.1 hi').1
    simp only [List.length_append, List.length_singleton] at hlt
    rw [List.getElem?_append_left (by omega)] at hi'
    exact List.mem_of_getElem? hi'
  exact keep_bind hv ht.1 ht.2.1 hk
end Go.Proofs.YtdiagiflihpidaaDoor
namespace Go.Proofs.YtdiagiflihpidaaDoor
open Go Go.EV
set_option maxRecDepth 100000
theorem out_ok {n : SNat} {now : Int} {a b : SAddr} {r : SNat × SAddr × Int} (h : OutQ n now a b r) (h0 : r.2.2 = 0) :
  Valid n ∧ Time n now [a, b] ∧ a.fHost ≠ n.fHost ∧ ∃ t j x, Base (atT n now) a b t j x ∧ r = (outN n now b t j x, ⟨n.fHost, x.fPort⟩, 0) := by
 rcases h with ⟨_, rfl⟩ | ⟨_, _, rfl⟩ | ⟨h1, h2, ⟨_, rfl⟩ | ⟨t, j, x, h3, rfl⟩⟩
 ·simp at h0
 ·simp at h0
 ·simp at h0
 ·exact ⟨h1, h2.1, h2.2, t, j, x, h3, rfl⟩
def DraftOk (d : SDraft) : Prop := 0 ≤ d.fMapping ∧ 0 ≤ d.fFilter ∧ 0 ≤ d.fPorts ∧ 0 ≤ d.fTimeout
def Kind (d : SDraft) (n : SNat) : Prop :=
 n.fHost = bs [192, 0, 2, 9] ∧ n.fLow = 5000 ∧ n.fHigh = 5000 + Int.tmod d.fPorts 8 ∧ n.fMapping = 1 + Int.tmod d.fMapping 3 ∧ n.fFilter = 1 + Int.tmod d.fFilter 3 ∧ n.fTimeout = 1 + Int.tmod d.fTimeout 4000
def DN (d : SDraft) (k : Int) (n : SNat) : Prop := Kind d n ∧ Valid n ∧ n.fNow ≤ 1000 * k ∧ Bd k.toNat k.toNat n.fTable
theorem tmod_in (x : Int) {m : Int} (hm : 0 < m) : -m < Int.tmod x m ∧ Int.tmod x m < m := by
 refine ⟨?_, Int.tmod_lt_of_pos _ hm⟩
 have := Int.tmod_lt_of_pos (-x) hm
 rw [Int.neg_tmod] at this
 omega
theorem valid_nil {n : SNat} (h : Head n) (ht : n.fTable = []) : Valid n := ⟨h, by rw [ht]; exact fun i b hi => by simp at hi⟩
theorem ok63v (d : SDraft) (hd : DraftOk d) : SOk (s63 d) (fun r => DN d 0 r) := by
 show Ok (g63 d) _
 unfold g63
 obtain ⟨d1, d2, d3, d4⟩ := hd
 have a1 := tmod_in d.fMapping (m := 3) (by omega)
 have a2 := tmod_in d.fFilter (m := 3) (by omega)
 have a3 := tmod_in d.fPorts (m := 8) (by omega)
 have a4 := tmod_in d.fTimeout (m := 4000) (by omega)
 have b1 := Int.tmod_nonneg 3 d1
 have b2 := Int.tmod_nonneg 3 d2
 have b3 := Int.tmod_nonneg 8 d3
 have b4 := Int.tmod_nonneg 4000 d4
 rw [wi64_id (n := Int.tmod d.fMapping 3) (by omega) (by omega), wi64_id (n := Int.tmod d.fFilter 3) (by omega) (by omega), wi64_id (n := Int.tmod d.fPorts 8) (by omega) (by omega), wi64_id (n := Int.tmod d.fTimeout 4000) (by omega) (by omega),
  wi64_id (n := 1 + Int.tmod d.fMapping 3) (by omega) (by omega), wi64_id (n := 1 + Int.tmod d.fFilter 3) (by omega) (by omega), wi64_id (n := 5000 + Int.tmod d.fPorts 8) (by omega) (by omega), wi64_id (n := 1 + Int.tmod d.fTimeout 4000) (by omega) (by omega)]
 refine Ok.done ⟨⟨rfl, rfl, rfl, rfl, rfl, rfl⟩, valid_nil ⟨?_, ?_, ?_, ?_, ?_, ?_⟩ rfl, by simp, ⟨by simp, by simp⟩⟩
 ·simp only; omega
 ·simp only; omega
 ·simp only; omega
 ·exact .inl rfl
 ·simp only; omega
 ·simp
theorem tdiv_in (k : Int) : 0 ≤ wu8 (Int.tdiv k 3) ∧ wu8 (Int.tdiv k 3) ≤ 255 := by
 unfold wu8
 simp [IntKind.wrap, IntKind.bits, IntKind.signed]
 omega
end Go.Proofs.YtdiagiflihpidaaDoor
namespace Go.Proofs.YtdiagiflihpidaaDoor
open Go Go.EV
set_option maxRecDepth 100000
theorem Ok.scan {P : Program} {G : Nat → Option (List V)} {σ ε : Type} {S : σ → Ext} {body : σ → T P G (σ ⊕ ε)} {x0 : σ} {R : ε → Prop} (n : Nat) (hn : n ≤ 1000000) (I : Nat → σ → Prop) (h0 : I 0 x0)
  (step : ∀ k y, I k y → k < n → Ok (body y) (Sum.elim (I (k + 1)) R)) (last : ∀ y, I n y → Ok (body y) (Sum.elim (fun _ => False) R)) : Ok (.lp S body x0) R := by
 have key : ∀ m k y, I k y → k ≤ n → n - k < m → ∃ e, iter (fun y => (body y).run) m y = some e ∧ R e := by
  intro m
  induction m with
  | zero => intro k y _ _ h; omega
  | succ m ih =>
   intro k y hy hk hm
   have e1 : iter (fun y => (body y).run) (m + 1) y = (match (body y).run with | none => none | some (.inl y) => iter (fun y => (body y).run) m y | some (.inr e) => some e) := rfl
   rw [e1]
   rcases Nat.lt_or_ge k n with h | h
   ·obtain ⟨r, hr, hq⟩ := step k y hy h
    rw [hr]
    cases r with
    | inl z => exact ih (k + 1) z hq (by omega) (by omega)
    | inr e => exact ⟨e, rfl, hq⟩
   ·have : k = n := by omega
    subst this
    obtain ⟨r, hr, hq⟩ := last y hy
    rw [hr]
    cases r with
    | inl z => exact hq.elim
    | inr e => exact ⟨e, rfl, hq⟩
 exact key FUEL 0 x0 h0 (Nat.zero_le _) (fuel (by omega))
theorem wi64_nat {k n : Nat} (h : k < n) (hn : n ≤ 1000000) : wi64 ((k : Int) + 1) = ((k + 1 : Nat) : Int) := by
 rw [wi64_id (by omega) (by omega)]; omega
theorem get_lt {α : Type} {l : List α} {k : Nat} (h : k < l.length) : ∃ x, l[((k : Int)).toNat]? = some x ∧ l[k]? = some x := ⟨l[k], by rw [Int.toNat_natCast]; exact List.getElem?_eq_getElem h, List.getElem?_eq_getElem h⟩
def Find {α : Type} (l : List α) (p : α → Prop) (i : Int) : Prop :=
 (∃ (k : Nat) (x : α), i = k ∧ l[k]? = some x ∧ p x ∧ ∀ j y, j < k → l[j]? = some y → ¬ p y) ∨ (i = -1 ∧ ∀ x, x ∈ l → ¬ p x)
theorem Find.nonneg {α : Type} {l : List α} {p : α → Prop} {i : Int} (h : Find l p i) : 0 ≤ i ↔ ∃ x, x ∈ l ∧ p x := by
 rcases h with ⟨a, x, rfl, h1, h2, _⟩ | ⟨rfl, h⟩
 ·exact ⟨fun _ => ⟨x, List.mem_of_getElem? h1, h2⟩, fun _ => by omega⟩
 ·exact ⟨fun h => by omega, fun ⟨x, h1, h2⟩ => absurd h2 (h x h1)⟩
theorem Find.at {α : Type} {l : List α} {p : α → Prop} {i : Int} (h : Find l p i) (h0 : 0 ≤ i) : ∃ x, l[i.toNat]? = some x ∧ p x ∧ i.toNat < l.length ∧ i < l.length := by
 rcases h with ⟨a, x, rfl, h1, h2, _⟩ | ⟨rfl, h⟩
 ·have := (List.getElem?_eq_some_iff.1 h1).1
  exact ⟨x, by rw [Int.toNat_natCast]; exact h1, h2, by rw [Int.toNat_natCast]; exact this, by omega⟩
 ·omega
theorem Find.low {α : Type} {l : List α} {p : α → Prop} {i : Int} (h : Find l p i) : -1 ≤ i ∧ i < l.length := by
 rcases h with ⟨a, x, rfl, h1, _⟩ | ⟨rfl, _⟩
 ·have := (List.getElem?_eq_some_iff.1 h1).1
  omega
 ·omega
theorem none_of_upto {α : Type} {l : List α} {p : α → Prop} (h : ∀ j y, j < l.length → l[j]? = some y → ¬ p y) : ∀ x, x ∈ l → ¬ p x := fun x hx => by
 obtain ⟨j, hj⟩ := List.mem_iff_getElem?.1 hx
 exact h j x (List.getElem?_eq_some_iff.1 hj).1 hj
theorem upto2 {α : Type} {l : List α} {p : α → Prop} {k : Nat} {x : α} (h : ∀ j y, j < k → l[j]? = some y → p y) (hx : l[k]? = some x) (hp : p x) : ∀ j y, j < k + 1 → l[j]? = some y → p y := fun j y hj hy => by
 rcases Nat.lt_or_ge j k with h1 | h1
 ·exact h j y h1 hy
 ·have : j = k := by omega
  subst this
  rw [hx] at hy
  exact Option.some.inj hy ▸ hp
theorem mlook_set {α : Type} {l : List α} {p : α → Bool} {fv : α → Bool} (hv : ∀ e, e ∈ l → fv e = true) : mlook l p fv false = true ↔ ∃ e, e ∈ l ∧ p e = true := by
 unfold mlook
 cases h : l.findIdx? p with
 | none =>
  rw [List.findIdx?_eq_none_iff] at h
  simp only [Bool.false_eq_true, false_iff]
  rintro ⟨e, h1, h2⟩
  rw [h e h1] at h2; simp at h2
 | some j =>
  obtain ⟨h1, h2, _⟩ := List.findIdx?_eq_some_iff_getElem.1 h
  simp only [List.getElem?_eq_getElem h1]
  exact ⟨fun _ => ⟨l[j], List.getElem_mem h1, h2⟩, fun _ => hv _ (List.getElem_mem h1)⟩
theorem mput_mem {α : Type} {l : List α} {p : α → Bool} {y e : α} : e ∈ mput l p y → e = y ∨ e ∈ l := by
 unfold mput
 split
 ·intro h
  rcases List.mem_or_eq_of_mem_set h with h | h
  ·exact .inr h
  ·exact .inl h
 ·intro h
  rcases List.mem_append.1 h with h | h
  ·exact .inr h
  ·exact .inl (by simpa using h)
theorem mput_keys {α κ : Type} {l : List α} {fk : α → κ} {p : α → Bool} {y : α} {x : κ} (hp : ∀ e, p e = true ↔ x = fk e) (hy : fk y = x) (z : κ) : (∃ e, e ∈ mput l p y ∧ fk e = z) ↔ (∃ e, e ∈ l ∧ fk e = z) ∨ z = x := by
 constructor
 ·rintro ⟨e, h1, h2⟩
  rcases mput_mem h1 with rfl | h1
  ·exact .inr (h2.symm.trans hy)
  ·exact .inl ⟨e, h1, h2⟩
 ·unfold mput
  cases h : l.findIdx? p with
  | none =>
   rintro (⟨e, h1, h2⟩ | rfl)
   ·exact ⟨e, by simp [h1], h2⟩
   ·exact ⟨y, by simp, hy⟩
  | some j =>
   obtain ⟨h1, h2, _⟩ := List.findIdx?_eq_some_iff_getElem.1 h
   have hyin : y ∈ l.set j y := List.mem_iff_getElem?.2 ⟨j, List.getElem?_set_self h1⟩
   rintro (⟨e, k1, k2⟩ | rfl)
   ·obtain ⟨i, hi⟩ := List.mem_iff_getElem?.1 k1
    by_cases hij : i = j
    ·subst hij
     rw [List.getElem?_eq_getElem h1] at hi
     obtain rfl := Option.some.inj hi
     exact ⟨y, hyin, by rw [hy, ← k2]; exact (hp _).1 h2⟩
    ·exact ⟨e, List.mem_iff_getElem?.2 ⟨i, by rw [List.getElem?_set_ne (Ne.symm hij)]; exact hi⟩, k2⟩
   ·exact ⟨y, hyin, hy⟩
def SetOf {α κ : Type} (fk : α → κ) (fv : α → Bool) (l : List α) (ks : List κ) : Prop := (∀ e, e ∈ l → fv e = true) ∧ ∀ z, (∃ e, e ∈ l ∧ fk e = z) ↔ z ∈ ks
theorem SetOf.look {α κ : Type} {fk : α → κ} {fv : α → Bool} {l : List α} {ks : List κ} (h : SetOf fk fv l ks) {p : α → Bool} {x : κ} (hp : ∀ e, p e = true ↔ x = fk e) : mlook l p fv false = true ↔ x ∈ ks := by
 rw [mlook_set h.1, ← h.2 x]
 exact ⟨fun ⟨e, h1, h2⟩ => ⟨e, h1, ((hp e).1 h2).symm⟩, fun ⟨e, h1, h2⟩ => ⟨e, h1, (hp e).2 h2.symm⟩⟩
theorem SetOf.put {α κ : Type} {fk : α → κ} {fv : α → Bool} {l : List α} {ks : List κ} (h : SetOf fk fv l ks) {p : α → Bool} {x : κ} {y : α} (hp : ∀ e, p e = true ↔ x = fk e) (hy : fk y = x) (hv : fv y = true) : SetOf fk fv (mput l p y) (ks ++ [x]) := by
 refine ⟨fun e he => ?_, fun z => ?_⟩
 ·rcases mput_mem he with rfl | h1
  ·exact hv
  ·exact h.1 e h1
 ·rw [mput_keys hp hy z, h.2 z]; simp
theorem SetOf.nil {α κ : Type} (fk : α → κ) (fv : α → Bool) : SetOf fk fv [] [] := ⟨fun e h => by simp at h, fun z => by simp⟩
theorem nodup_app {κ : Type} {l : List κ} {x : κ} : (l ++ [x]).Nodup ↔ l.Nodup ∧ x ∉ l := by
 rw [List.nodup_append]
 simp only [List.nodup_cons, List.not_mem_nil, not_false_eq_true, List.nodup_nil, and_self, true_and, List.mem_cons, or_false]
 exact ⟨fun ⟨h1, h2⟩ => ⟨h1, fun h => h2 x h x rfl rfl⟩, fun ⟨h1, h2⟩ => ⟨h1, fun a ha b hb e => h2 (by rw [← hb, ← e]; exact ha)⟩⟩
theorem take_succ_map {α κ : Type} {l : List α} {f : α → κ} {k : Nat} {x : α} (h : l[k]? = some x) : (l.take (k + 1)).map f = (l.take k).map f ++ [f x] := by
 rw [List.take_add_one, h]; simp
def hostLen : List SHost1 → Int
 | h :: _ => (h.fIp.size : Int)
 | [] => 0
def place (h : SHost1) : Int × ByteArray := (h.fNat, h.fIp)
def HostOk (k m : Int) (h : SHost1) : Prop :=
 (h.fIp.size : Int) = k ∧ (-1 ≤ h.fNat ∧ h.fNat < m) ∧ (0 ≤ h.fDelay ∧ h.fDelay ≤ 10000) ∧ (0 ≤ h.fLose ∧ h.fLose ≤ 100) ∧ (0 ≤ h.fCount ∧ h.fCount ≤ 1099511627776)
def NatOk (k now : Int) (x : SNat) : Prop := Valid x ∧ x.fNow ≤ now ∧ (x.fHost.size : Int) = k
def FlOk (k m serial : Int) (f : SFlight) : Prop :=
 (0 ≤ f.fDue ∧ f.fDue ≤ 1099511627776) ∧ f.fSerial < serial ∧ (-1 ≤ f.fVia ∧ f.fVia < m) ∧ (-1 ≤ f.fWithin ∧ f.fWithin < m) ∧ (f.fVia = -1 ∨ f.fWithin = -1) ∧ Usable f.fFrom k ∧ Usable f.fTo k ∧ (f.fData.size : Int) ≤ 1200
def HostsOk (k m : Int) (hs : List SHost1) : Prop := (∀ h, h ∈ hs → HostOk k m h) ∧ (hs.map place).Nodup
def NatsOk (k now : Int) (hs : List SHost1) (ns : List SNat) : Prop := (∀ x, x ∈ ns → NatOk k now x) ∧ (ns.map SNat.fHost).Nodup ∧ ∀ x, x ∈ ns → ∀ h, h ∈ hs → h.fIp ≠ x.fHost
def QueueOk (k m serial : Int) (q : List SFlight) : Prop := (∀ f, f ∈ q → FlOk k m serial f ∧ 0 ≤ f.fSerial) ∧ (q.map SFlight.fSerial).Pairwise (· < ·)
def HNOk (k now : Int) (hs : List SHost1) (ns : List SNat) : Prop := (k = 4 ∨ k = 16) ∧ HostsOk k ns.length hs ∧ NatsOk k now hs ns
def NV (n : SNetwork) : Prop :=
 (1 ≤ n.fHosts.length ∧ n.fHosts.length ≤ 8 ∧ n.fNats.length ≤ 4 ∧ n.fQueue.length ≤ 64) ∧ (0 ≤ n.fNow ∧ n.fNow ≤ 1099511627776) ∧ (0 ≤ n.fSerial ∧ n.fSerial ≤ 1099511627776) ∧
 HNOk (hostLen n.fHosts) n.fNow n.fHosts n.fNats ∧ QueueOk (hostLen n.fHosts) n.fNats.length n.fSerial n.fQueue
def SmallW (n : SNetwork) : Prop := Small n.fHosts ∧ Small n.fNats ∧ Small n.fQueue ∧ ∀ x, x ∈ n.fNats → SmallN x.fTable
theorem ok68 (n a b : Int) : SOk (s68 n a b) (fun c => (c = true ↔ a ≤ n ∧ n ≤ b)) := by
 show Ok (g68 n a b) _
 unfold g68
 refine Ok.cnd (R := fun c => (c = true ↔ a ≤ n ∧ n ≤ b)) (Ok.br (fun h => Ok.done ?_) (fun h => Ok.done ?_)) fun c hc => Ok.done hc
 ·simp at h ⊢; omega
 ·simp at h ⊢; omega
theorem ok103 (a b : Int) : SOk (s103 a b) (fun r => (r < 0 ↔ a < b)) := by
 show Ok (g103 a b) _
 unfold g103
 have e : ∀ x, SOk (s122 x) (fun r => r = false) := fun x => Ok.done (by simp)
 refine Ok.call (e a) fun x hx => Ok.call (e b) fun y hy => ?_
 subst hx hy
 refine Ok.br (fun h => by simp at h) fun _ => Ok.br (fun h => by simp at h) fun _ => Ok.br (fun h => Ok.done ?_) fun h => Ok.br (fun h2 => Ok.done ?_) fun h2 => Ok.done ?_
 all_goals (simp at *; omega)
theorem ok69 (c : SCarrier) (a : SAddr) {h : SHost1} {t : List SHost1} (hh : c.fNetwork.fHosts = h :: t) : SOk (s69 c a) (fun b => (b = true ↔ Usable a (hostLen c.fNetwork.fHosts))) := by
 show Ok (g69 c a) _
 unfold g69
 refine Ok.cnd (R := fun b => (b = true ↔ Usable a (hostLen c.fNetwork.fHosts))) ?_ fun c hc => Ok.done hc
 refine Ok.call (ok94 _) fun x hx => ?_
 rw [hh]
 unfold Usable hostLen
 refine Ok.br (fun h1 => Ok.br (fun h2 => ?_) (fun h2 => Ok.done ?_)) (fun h1 => Ok.done ?_)
 ·refine Ok.row (x := h) rfl rfl (Ok.done ?_)
  simp at h1 h2 ⊢; rw [hx] at h1; omega
 ·simp at h1 h2 ⊢; omega
 ·simp at h1 ⊢; rw [hx] at h1; omega
theorem ok102 (c : SCarrier) (f : SFlight) {h : SHost1} {t : List SHost1} (hh : c.fNetwork.fHosts = h :: t) (hs : Small c.fNetwork.fNats) : SOk (s102 c f) (fun b => (b = true ↔ FlOk (hostLen c.fNetwork.fHosts) c.fNetwork.fNats.length c.fNetwork.fSerial f)) := by
 show Ok (g102 c f) _
 unfold g102
 refine Ok.cnd (R := fun b => (b = true ↔ FlOk (hostLen c.fNetwork.fHosts) c.fNetwork.fNats.length c.fNetwork.fSerial f)) ?_ fun c hc => Ok.done hc
 have hs' : c.fNetwork.fNats.length ≤ 1000000 := hs
 have e : wi64 (mlen tySNat c.fNetwork.fNats - 1) = (c.fNetwork.fNats.length : Int) - 1 := by rw [mlen_eq, wi64_id (by omega) (by omega)]
 rw [e]
 unfold FlOk
 have fin : ∀ (r1 r2 : Bool) (a1 a2 : Prop), (r1 = true ↔ a1) → (r2 = true ↔ a2) → True := fun _ _ _ _ _ _ => trivial
 refine Ok.call (ok68 _ _ _) fun x1 h1 => Ok.br (fun e1 => ?_) fun e1 => Ok.done ?_
 rotate_left
 ·rw [e1] at h1; simp at h1 ⊢; intros; omega
 refine Ok.br (fun e2 => ?_) fun e2 => Ok.done ?_
 rotate_left
 ·simp at e2 ⊢; intros; omega
 refine Ok.call (ok68 _ _ _) fun x3 h3 => Ok.br (fun e3 => ?_) fun e3 => Ok.done ?_
 rotate_left
 ·rw [e3] at h3; simp at h3 ⊢; intros; omega
 refine Ok.call (ok68 _ _ _) fun x4 h4 => Ok.br (fun e4 => ?_) fun e4 => Ok.done ?_
 rotate_left
 ·rw [e4] at h4; simp at h4 ⊢; intros; omega
 have key : f.fVia = -1 ∨ f.fWithin = -1 → Ok (.call 1052 (s69 c f.fFrom) [] [] fun r342 => .br 1055 r342 (.call 1058 (s69 c f.fTo) [] [] fun r343 => .br 1061 r343 (.done (decide ((f.fData.size : Int) ≤ 1200))) (.done false)) (.done false) : TT Bool)
   (fun b => (b = true ↔ (0 ≤ f.fDue ∧ f.fDue ≤ 1099511627776) ∧ f.fSerial < c.fNetwork.fSerial ∧ (-1 ≤ f.fVia ∧ f.fVia < c.fNetwork.fNats.length) ∧ (-1 ≤ f.fWithin ∧ f.fWithin < c.fNetwork.fNats.length) ∧ (f.fVia = -1 ∨ f.fWithin = -1) ∧ Usable f.fFrom (hostLen c.fNetwork.fHosts) ∧ Usable f.fTo (hostLen c.fNetwork.fHosts) ∧ (f.fData.size : Int) ≤ 1200)) := fun hv => by
  have a1 := h1.1 e1
  have a3 := h3.1 e3
  have a4 := h4.1 e4
  simp only [decide_eq_true_eq] at e2
  refine Ok.call (ok69 c f.fFrom hh) fun x5 h5 => Ok.br (fun e5 => ?_) fun e5 => Ok.done ?_
  ·refine Ok.call (ok69 c f.fTo hh) fun x6 h6 => Ok.br (fun e6 => Ok.done ?_) fun e6 => Ok.done ?_
   ·simp only [decide_eq_true_eq]
    exact ⟨fun h => ⟨a1, e2, ⟨a3.1, by omega⟩, ⟨a4.1, by omega⟩, hv, h5.1 e5, h6.1 e6, h⟩, fun h => h.2.2.2.2.2.2.2⟩
   ·simp only [Bool.false_eq_true, false_iff]
    exact fun h => by rw [h6.2 h.2.2.2.2.2.2.1] at e6; simp at e6
  ·simp only [Bool.false_eq_true, false_iff]
   exact fun h => by rw [h5.2 h.2.2.2.2.2.1] at e5; simp at e5
 refine Ok.br (fun e5 => key (.inl (by simpa using e5))) fun e5 => Ok.br (fun e6 => key (.inr (by simpa using e6))) fun e6 => Ok.done ?_
 simp at e5 e6 ⊢; intros; omega
end Go.Proofs.YtdiagiflihpidaaDoor
namespace Go.Proofs.YtdiagiflihpidaaDoor
open Go Go.EV
set_option maxRecDepth 100000
section
variable {P : Program} {G : Nat → Option (List V)} {ρ : Type} {Q : ρ → Prop}
theorem Ok.opr {β : Type} {a : Nat} {R : Rule P G β} {k : β → T P G ρ} {r : β} (hr : R.o = some r) (h : Ok (k r) Q) : Ok (.opr a R k) Q := by
 obtain ⟨x, e, hq⟩ := h
 exact ⟨x, by simp only [T.run, hr]; exact e, hq⟩
theorem Ok.brT {a : Nat} {c : Bool} {x y : T P G ρ} (hc : c = true) (h : Ok x Q) : Ok (.br a c x y) Q := Ok.br (fun _ => h) fun e => by rw [hc] at e; simp at e
theorem Ok.brF {a : Nat} {c : Bool} {x y : T P G ρ} (hc : c = false) (h : Ok y Q) : Ok (.br a c x y) Q := Ok.br (fun e => by rw [hc] at e; simp at e) fun _ => h
end
theorem t68 {n a b : Int} (h : a ≤ n ∧ n ≤ b) : SOk (s68 n a b) (fun c => c = true) := (ok68 n a b).mono fun _ hc => hc.2 h
theorem valid_small' {n : SNat} (hv : Valid n) : SmallN n.fTable := by
 have hp := hv.1.2.2.2.2.1
 refine ⟨?_, fun b hb => ?_⟩
 ·have hnd : (n.fTable.map SBinding.fPort).Nodup := by
   have := (allB_iff.1 hv.2).2
   unfold Apart at this
   rw [List.nodup_iff_pairwise_ne, List.pairwise_map]
   exact this.imp fun h e => h (.inl e.symm)
  have hsub : ∀ p, p ∈ n.fTable.map SBinding.fPort → p ∈ (List.range 64).map fun (i : Nat) => n.fLow + (i : Int) := fun p hpm => by
   obtain ⟨b, hb, rfl⟩ := List.mem_map.1 hpm
   have h1 := ((allB_iff.1 hv.2).1 b hb).1
   refine List.mem_map.2 ⟨(b.fPort - n.fLow).toNat, List.mem_range.2 ?_, ?_⟩
   ·have := h1.2.2.2.1; have := h1.2.2.2.2.1; omega
   ·have := h1.2.2.2.1; omega
  have key : ∀ (l m : List Int), l.Nodup → (∀ a, a ∈ l → a ∈ m) → l.length ≤ m.length := by
   intro l
   induction l with
   | nil => intro m _ _; simp
   | cons a l ih =>
    intro m hn hs
    obtain ⟨h1, h2⟩ := List.nodup_cons.1 hn
    have ha := hs a (by simp)
    have := ih (m.erase a) h2 fun x hx => (List.mem_erase_of_ne (fun e => h1 (by rw [← e]; exact hx))).2 (hs x (by simp [hx]))
    have hl := List.length_erase_of_mem ha
    have : 0 < m.length := List.length_pos_of_mem ha
    simp only [List.length_cons]
    omega
  have := key _ _ hnd hsub
  simp only [List.length_map, List.length_range] at this
  show _ ≤ 1000000
  omega
 ·have h1 := ((allB_iff.1 hv.2).1 b hb).2
  show _ ≤ 1000000
  rcases h1 with ⟨_, h⟩ | ⟨_, _, h, _⟩ <;> omega
theorem t19 {n : SNat} (hv : Valid n) : SOk (s19 n) (fun r => r = 0) := (ok19 n (valid_small' hv)).mono fun r h => by
 rcases h with ⟨h, _⟩ | ⟨_, h⟩
 ·exact absurd hv h
 ·exact h
theorem t101 (c : SCarrier) {h0 : SHost1} {t : List SHost1} (hh : c.fNetwork.fHosts = h0 :: t) (hl : c.fNetwork.fHosts.length ≤ 8) (hn : c.fNetwork.fNats.length ≤ 4) (hv : HNOk (hostLen c.fNetwork.fHosts) c.fNetwork.fNow c.fNetwork.fHosts c.fNetwork.fNats) : SOk (s101 c) (fun b => b = true) := by
 show Ok (g101 c) _
 unfold g101
 obtain ⟨hk, ⟨hH, hHn⟩, hN, hNn, hX⟩ := hv
 have hk0 : hostLen c.fNetwork.fHosts = (h0.fIp.size : Int) := by rw [hh]; rfl
 have e : wi64 (mlen tySNat c.fNetwork.fNats - 1) = (c.fNetwork.fNats.length : Int) - 1 := by rw [mlen_eq, wi64_id (by omega) (by omega)]
 rw [e]
 refine Ok.row (x := h0) rfl (by rw [hh]; rfl) ?_
 refine Ok.opr rfl (Ok.opr rfl ?_)
 refine Ok.bind2 (R := Sum.elim (fun _ => False) (fun e => SetOf SEnt192.fk SEnt192.fv e.1 (c.fNetwork.fHosts.map SHost1.fIp) ∧ e.2 = (h0.fIp.size : Int))) ?_ (fun e he => he.elim) fun e he => ?_
 ·refine Ok.scan c.fNetwork.fHosts.length (by omega) (fun k y => y.2.2 = (k : Int) ∧ SetOf (fun e : SEnt191 => (e.fk.fnat, e.fk.fip)) SEnt191.fv y.1 ((c.fNetwork.fHosts.take k).map place) ∧ SetOf SEnt192.fk SEnt192.fv y.2.1 ((c.fNetwork.fHosts.take k).map SHost1.fIp)) ⟨rfl, SetOf.nil _ _, SetOf.nil _ _⟩ (fun k y hI hlt => ?_) fun y hI => ?_
  ·obtain ⟨y1, y2, y3⟩ := y
   obtain ⟨rfl, i1, i2⟩ := hI
   obtain ⟨x, hx, hx'⟩ := get_lt hlt
   refine Ok.brT (by simp [mlen_eq]; omega) (Ok.row (by simp) hx ?_)
   have hx2 := hH x (List.mem_of_getElem? hx')
   have key1 : ∀ e : SEnt191, ((x.fNat == e.fk.fnat) && ((decide (x.fIp = e.fk.fip)) && true)) = true ↔ place x = (e.fk.fnat, e.fk.fip) := fun e => by
    simp only [Bool.and_true, Bool.and_eq_true, beq_iff_eq, decide_eq_true_eq, place, Prod.mk.injEq]
   have key2 : ∀ e : SEnt192, (decide (x.fIp = e.fk)) = true ↔ x.fIp = e.fk := fun e => by simp
   have hnew : mlook y1 (fun e => ((x.fNat == e.fk.fnat) && ((decide (x.fIp = e.fk.fip)) && true))) (fun e => e.fv) false = false := by
    refine Bool.eq_false_iff.2 fun hm => ?_
    have := (i1.look key1).1 hm
    have hnd : ((c.fNetwork.fHosts.take (k + 1)).map place).Nodup := List.Sublist.nodup (List.Sublist.map _ (List.take_sublist _ _)) hHn
    rw [take_succ_map hx', nodup_app] at hnd
    exact hnd.2 this
   refine Ok.cnd (R := fun c => c = false) ?_ fun c hc => ?_
   ·unfold HostOk at hx2
    refine Ok.brF (by simp; omega) (Ok.call (t68 (by omega)) fun b hb => Ok.brF (by simp [hb]) (Ok.call (t68 (by omega)) fun b hb => Ok.brF (by simp [hb]) (Ok.call (t68 (by omega)) fun b hb => Ok.brF (by simp [hb]) (Ok.call (t68 (by omega)) fun b hb => Ok.brF (by simp [hb]) (Ok.opr rfl (Ok.done hnew))))))
   ·refine Ok.brF hc (Ok.opr rfl (Ok.opr rfl (Ok.done ?_)))
    refine ⟨wi64_nat hlt (by omega), ?_, ?_⟩
    ·rw [take_succ_map hx']; exact i1.put key1 rfl rfl
    ·rw [take_succ_map hx']; exact i2.put key2 rfl rfl
  ·obtain ⟨y1, y2, y3⟩ := y
   obtain ⟨rfl, i1, i2⟩ := hI
   refine Ok.brF (by simp [mlen_eq]) (Ok.done ?_)
   rw [List.take_length] at i2
   exact ⟨i2, rfl⟩
 ·obtain ⟨e1, e2⟩ := e
  obtain ⟨hs, rfl⟩ := he
  refine Ok.bind2 (R := Sum.elim (fun _ => False) (fun e => e = (h0.fIp.size : Int))) ?_ (fun e he => he.elim) fun e he => ?_
  ·refine Ok.scan c.fNetwork.fNats.length (by omega) (fun k y => y.2 = (k : Int) ∧ SetOf SEnt192.fk SEnt192.fv y.1 (c.fNetwork.fHosts.map SHost1.fIp ++ (c.fNetwork.fNats.take k).map SNat.fHost)) ⟨rfl, by simpa using hs⟩ (fun k y hI hlt => ?_) fun y hI => ?_
   ·obtain ⟨y1, y2⟩ := y
    obtain ⟨rfl, i1⟩ := hI
    obtain ⟨x, hx, hx'⟩ := get_lt hlt
    refine Ok.brT (by simp [mlen_eq]; omega) (Ok.row (by simp) hx ?_)
    obtain ⟨n1, n2, n3⟩ := hN x (List.mem_of_getElem? hx')
    have key2 : ∀ e : SEnt192, (decide (x.fHost = e.fk)) = true ↔ x.fHost = e.fk := fun e => by simp
    have hnew : mlook y1 (fun e => (decide (x.fHost = e.fk))) (fun e => e.fv) false = false := by
     refine Bool.eq_false_iff.2 fun hm => ?_
     have := (i1.look key2).1 hm
     rcases List.mem_append.1 this with h | h
     ·obtain ⟨h, h1, h2⟩ := List.mem_map.1 h
      exact hX x (List.mem_of_getElem? hx') h h1 h2
     ·have hnd : ((c.fNetwork.fNats.take (k + 1)).map SNat.fHost).Nodup := List.Sublist.nodup (List.Sublist.map _ (List.take_sublist _ _)) hNn
      rw [take_succ_map hx', nodup_app] at hnd
      exact hnd.2 h
    refine Ok.cnd (R := fun c => c = false) ?_ fun c hc => ?_
    ·refine Ok.call (t19 n1) fun r hr => Ok.brF (by simp [hr]) (Ok.brF (by simp; omega) (Ok.brF (by simp; omega) (Ok.opr rfl (Ok.done hnew))))
    ·refine Ok.brF hc (Ok.opr rfl (Ok.done ?_))
     refine ⟨wi64_nat hlt (by omega), ?_⟩
     rw [take_succ_map hx', ← List.append_assoc]; exact i1.put key2 rfl rfl
   ·obtain ⟨y1, y2⟩ := y
    obtain ⟨rfl, i1⟩ := hI
    exact Ok.brF (by simp [mlen_eq]) (Ok.done rfl)
  ·subst he
   refine Ok.cnd (R := fun c => c = true) ?_ fun c hc => Ok.done hc
   refine Ok.br (fun h => Ok.done rfl) fun h => Ok.done ?_
   simp at h ⊢; omega
theorem nv_cons {n : SNetwork} (hv : NV n) : ∃ h t, n.fHosts = h :: t := by
 cases hh : n.fHosts with
 | nil => have := hv.1.1; rw [hh] at this; simp at this
 | cons h t => exact ⟨h, t, rfl⟩
theorem queue_up {k m serial : Int} {q : List SFlight} (h : QueueOk k m serial q) {j i : Nat} {f g : SFlight} (hf : q[j]? = some f) (hg : q[i]? = some g) (hlt : j < i) : f.fSerial < g.fSerial := by
 have h2 := List.pairwise_iff_getElem.1 h.2 j i (by simpa using (List.getElem?_eq_some_iff.1 hf).1) (by simpa using (List.getElem?_eq_some_iff.1 hg).1) hlt
 simp only [List.getElem_map] at h2
 rw [(List.getElem?_eq_some_iff.1 hf).2, (List.getElem?_eq_some_iff.1 hg).2] at h2
 exact h2
theorem t75 {n : SNetwork} (hv : NV n) : SOk (s75 (SCarrier.mk n)) (fun b => b = true) := by
 obtain ⟨h0, t, hh⟩ := nv_cons hv
 obtain ⟨⟨a1, a2, a3, a4⟩, a5, a6, a7, a8⟩ := hv
 show Ok (g75 (SCarrier.mk n)) _
 unfold g75
 simp only [mlen_eq]
 refine Ok.cnd (R := fun c => c = false) ?_ fun c hc => Ok.brF hc ?_
 ·exact Ok.call (t68 (by omega)) fun b hb => Ok.brF (by simp [hb]) (Ok.brF (by simp; omega) (Ok.brF (by simp; omega) (Ok.call (t68 (by omega)) fun b hb => Ok.brF (by simp [hb]) (Ok.call (t68 (by omega)) fun b hb => Ok.brF (by simp [hb]) (Ok.call (t101 (SCarrier.mk n) hh a2 a3 a7) fun b hb => Ok.done (by simp [hb]))))))
 ·refine Ok.bind2 (R := Sum.elim (fun _ => False) (fun _ => True)) ?_ (fun e he => he.elim) fun e he => Ok.done rfl
  refine Ok.scan n.fQueue.length (by omega) (fun k y => y.2 = (k : Int) ∧ ∀ f, n.fQueue[k]? = some f → y.1 < f.fSerial) ⟨rfl, fun f hf => ?_⟩ (fun k y hI hlt => ?_) fun y hI => ?_
  ·have := (a8.1 f (List.mem_of_getElem? hf)).2
   show (-1 : Int) < _
   omega
  ·obtain ⟨y1, y2⟩ := y
   obtain ⟨rfl, i1⟩ := hI
   obtain ⟨x, hx, hx'⟩ := get_lt hlt
   refine Ok.brT (by simp; omega) (Ok.row (by simp) hx ?_)
   have := i1 x hx'
   refine Ok.cnd (R := fun c => c = false) ?_ fun c hc => Ok.brF hc (Ok.done ⟨wi64_nat hlt (by omega), fun f hf => ?_⟩)
   ·refine Ok.brF (by simp at this ⊢; omega) (Ok.call ((ok102 (SCarrier.mk n) x hh (by show _ ≤ 1000000; simp; omega)).mono fun b hb => hb.2 (a8.1 x (List.mem_of_getElem? hx')).1) fun b hb => Ok.done (by simp [hb]))
   ·exact queue_up a8 hx' hf (Nat.lt_succ_self k)
  ·obtain ⟨y1, y2⟩ := y
   obtain ⟨rfl, i1⟩ := hI
   exact Ok.brF (by simp) (Ok.done trivial)
theorem t67 {n : SNetwork} (hv : NV n) : SOk (s67 n) (fun r => r = .inr ()) := by
 show Ok (g67 n) _
 unfold g67
 obtain ⟨⟨a1, a2, a3, a4⟩, _⟩ := hv
 have e1 : SOk (s91 n.fHosts) (fun _ => True) := by
  show Ok (g91 n.fHosts) _
  unfold g91
  exact Ok.app (by simp; omega) (Ok.done trivial)
 have e2 : SOk (s92 n.fNats) (fun _ => True) := by
  show Ok (g92 n.fNats) _
  unfold g92
  exact Ok.app (by simp; omega) (Ok.done trivial)
 have e3 : SOk (s93 n.fQueue) (fun _ => True) := by
  show Ok (g93 n.fQueue) _
  unfold g93
  exact Ok.app (by simp; omega) (Ok.done trivial)
 exact Ok.view (t75 ⟨⟨a1, a2, a3, a4⟩, by assumption⟩) fun b hb => Ok.brF (by simp [hb]) (Ok.call e1 fun _ _ => Ok.call e2 fun _ _ => Ok.call e3 fun _ _ => Ok.done rfl)
end Go.Proofs.YtdiagiflihpidaaDoor
namespace Go.Proofs.YtdiagiflihpidaaDoor
open Go Go.EV
set_option maxRecDepth 100000
def Here (nat : Int) (ip : ByteArray) (h : SHost1) : Prop := h.fNat = nat ∧ h.fIp = ip
theorem ok119 (l : List SHost1) (p : SPlace) (hl : Small l) : SOk (s119 l p) (Find l (Here p.fnat p.fip)) := by
 show Ok (g119 l p) _
 unfold g119
 refine Ok.bind2 (R := Sum.elim (Find l (Here p.fnat p.fip)) (fun _ => ∀ x, x ∈ l → ¬ Here p.fnat p.fip x)) ?_ (fun e he => Ok.done he) fun e he => Ok.done (.inr ⟨rfl, he⟩)
 refine Ok.scan l.length hl (fun k y => y = (k : Int) ∧ ∀ j x, j < k → l[j]? = some x → ¬ Here p.fnat p.fip x) ⟨rfl, by simp⟩ (fun k y hI hlt => ?_) fun y hI => ?_
 ·obtain ⟨rfl, i1⟩ := hI
  obtain ⟨x, hx, hx'⟩ := get_lt hlt
  refine Ok.brT (by simp [mlen_eq]; omega) (Ok.row (by simp) hx ?_)
  refine Ok.call (R := fun c => (c = true ↔ Here p.fnat p.fip x)) ?_ fun c hc => Ok.br (fun h => Ok.done ?_) fun h => Ok.done ?_
  ·show Ok (g120 x p) _
   unfold g120
   exact Ok.done (by simp [Here])
  ·exact .inl ⟨k, x, rfl, hx', hc.1 h, i1⟩
  ·exact ⟨wi64_nat hlt hl, upto2 i1 hx' fun hh => by rw [hc.2 hh] at h; simp at h⟩
 ·obtain ⟨rfl, i1⟩ := hI
  exact Ok.brF (by simp [mlen_eq]) (Ok.done (none_of_upto i1))
theorem ok95 (c : SCarrier) (p : SPlace) (hl : Small c.fNetwork.fHosts) : SOk (s95 c p) (Find c.fNetwork.fHosts (Here p.fnat p.fip)) := by
 show Ok (g95 c p) _
 unfold g95
 exact Ok.view (ok119 _ p hl) fun r hr => Ok.done hr
theorem ok66 (n : SNetwork) (nat : Int) (ip : ByteArray) (hl : Small n.fHosts) : SOk (s66 n nat ip) (Find n.fHosts (Here nat ip)) := by
 show Ok (g66 n nat ip) _
 unfold g66
 refine Ok.bind2 (R := Sum.elim (Find n.fHosts (Here nat ip)) (fun _ => ∀ x, x ∈ n.fHosts → ¬ Here nat ip x)) ?_ (fun e he => Ok.done he) fun e he => Ok.done (.inr ⟨rfl, he⟩)
 refine Ok.scan n.fHosts.length hl (fun k y => y = (k : Int) ∧ ∀ j x, j < k → n.fHosts[j]? = some x → ¬ Here nat ip x) ⟨rfl, by simp⟩ (fun k y hI hlt => ?_) fun y hI => ?_
 ·obtain ⟨rfl, i1⟩ := hI
  obtain ⟨x, hx, hx'⟩ := get_lt hlt
  refine Ok.brT (by simp [mlen_eq]; omega) ?_
  refine Ok.cnd (R := fun c => (c = true ↔ Here nat ip x)) ?_ fun c hc => Ok.br (fun h => Ok.done ?_) fun h => Ok.done ?_
  ·refine Ok.row (by simp) hx (Ok.br (fun h1 => Ok.row (by simp) hx (Ok.done ?_)) fun h1 => Ok.done ?_)
   ·simp [Here] at h1 ⊢; intro _; exact h1
   ·simp [Here] at h1 ⊢; intro h; exact absurd h h1
  ·exact .inl ⟨k, x, rfl, hx', hc.1 h, i1⟩
  ·exact ⟨wi64_nat hlt hl, upto2 i1 hx' fun hh => by rw [hc.2 hh] at h; simp at h⟩
 ·obtain ⟨rfl, i1⟩ := hI
  exact Ok.brF (by simp [mlen_eq]) (Ok.done (none_of_upto i1))
def FirstQ (q : List SFlight) (i : Int) : Prop := ∃ (k : Nat) (f : SFlight), i = k ∧ q[k]? = some f ∧ ∀ j g, q[j]? = some g → f.fDue ≤ g.fDue ∧ (j < k → f.fDue < g.fDue)
theorem FirstQ.eq {q : List SFlight} {i j : Int} (h : FirstQ q i) (k : FirstQ q j) : i = j := by
 obtain ⟨a, f, rfl, h1, h2⟩ := h
 obtain ⟨b, g, rfl, k1, k2⟩ := k
 rcases Nat.lt_trichotomy a b with h | h | h
 ·have := (k2 a f h1).2 h; have := (h2 b g k1).1; omega
 ·rw [h]
 ·have := (h2 b g k1).2 h; have := (k2 a f h1).1; omega
def Pre (q : List SFlight) (k : Nat) (i : Int) : Prop := ∃ (b : Nat) (f : SFlight), i = b ∧ q[b]? = some f ∧ (b < k ∨ (k = 0 ∧ b = 0)) ∧ ∀ j g, j < k → q[j]? = some g → f.fDue ≤ g.fDue ∧ (j < b → f.fDue < g.fDue)
theorem Pre.take {q : List SFlight} {k b : Nat} {f x : SFlight} (_ : q[b]? = some f) (hx : q[k]? = some x) (hb : b < k ∨ (k = 0 ∧ b = 0)) (h : ∀ j g, j < k → q[j]? = some g → f.fDue ≤ g.fDue ∧ (j < b → f.fDue < g.fDue)) (hlt : x.fDue < f.fDue) : Pre q (k + 1) k :=
 ⟨k, x, rfl, hx, .inl (Nat.lt_succ_self k), fun j g hj hg => by
  rcases Nat.lt_or_ge j k with h1 | h1
  ·have := (h j g h1 hg).1
   exact ⟨by omega, fun _ => by omega⟩
  ·have : j = k := by omega
   subst this
   rw [hx] at hg
   obtain rfl := Option.some.inj hg
   exact ⟨Int.le_refl _, fun h => by omega⟩⟩
theorem Pre.stay {q : List SFlight} {k b : Nat} {f x : SFlight} (hf : q[b]? = some f) (hx : q[k]? = some x) (hb : b < k ∨ (k = 0 ∧ b = 0)) (h : ∀ j g, j < k → q[j]? = some g → f.fDue ≤ g.fDue ∧ (j < b → f.fDue < g.fDue)) (hle : ¬ x.fDue < f.fDue) : Pre q (k + 1) b :=
 ⟨b, f, rfl, hf, .inl (by omega), fun j g hj hg => by
  rcases Nat.lt_or_ge j k with h1 | h1
  ·exact h j g h1 hg
  ·have : j = k := by omega
   subst this
   rw [hx] at hg
   obtain rfl := Option.some.inj hg
   exact ⟨by omega, fun h => by omega⟩⟩
theorem Pre.all {q : List SFlight} {i : Int} (h : Pre q q.length i) : FirstQ q i := by
 obtain ⟨b, f, rfl, h1, _, h2⟩ := h
 exact ⟨b, f, rfl, h1, fun j g hg => h2 j g (List.getElem?_eq_some_iff.1 hg).1 hg⟩
theorem ok76 (c : SCarrier) (hq : c.fNetwork.fQueue ≠ []) (hl : Small c.fNetwork.fQueue) : SOk (s76 c) (FirstQ c.fNetwork.fQueue) := by
 show Ok (g76 c) _
 unfold g76
 generalize c.fNetwork.fQueue = q at *
 refine Ok.bind (R := FirstQ q) ?_ fun e he => Ok.done he
 refine Ok.scan q.length hl (fun k y => y.2 = (k : Int) ∧ Pre q k y.1) ⟨rfl, ?_⟩ (fun k y hI hlt => ?_) fun y hI => ?_
 ·cases q with
  | nil => exact absurd rfl hq
  | cons f q => exact ⟨0, f, rfl, rfl, .inr ⟨rfl, rfl⟩, fun j g h => by omega⟩
 ·obtain ⟨y1, y2⟩ := y
  obtain ⟨rfl, b, f, rfl, hf, hb, h⟩ := hI
  obtain ⟨x, hx, hx'⟩ := get_lt hlt
  refine Ok.brT (by simp [mlen_eq]; omega) (Ok.row (by simp) hx (Ok.row (by simp) (by rw [Int.toNat_natCast]; exact hf) ?_))
  refine Ok.call (ok103 _ _) fun r hr => Ok.br (fun h1 => Ok.done ⟨wi64_nat hlt hl, Pre.take hf hx' hb h (hr.1 (by simpa using h1))⟩) fun h1 => Ok.done ⟨wi64_nat hlt hl, Pre.stay hf hx' hb h fun e => by have := hr.2 e; simp at h1; omega⟩
 ·obtain ⟨y1, y2⟩ := y
  obtain ⟨rfl, h⟩ := hI
  exact Ok.brF (by simp [mlen_eq]) (Ok.done h.all)
theorem nodup_get {α κ : Type} {l : List α} {f : α → κ} (h : (l.map f).Nodup) {i j : Nat} {x y : α} (hx : l[i]? = some x) (hy : l[j]? = some y) (hlt : i < j) : f x ≠ f y := by
 have := List.pairwise_iff_getElem.1 (List.nodup_iff_pairwise_ne.1 h) i j (by simpa using (List.getElem?_eq_some_iff.1 hx).1) (by simpa using (List.getElem?_eq_some_iff.1 hy).1) hlt
 simp only [List.getElem_map] at this
 rwa [(List.getElem?_eq_some_iff.1 hx).2, (List.getElem?_eq_some_iff.1 hy).2] at this
theorem nv_small {n : SNetwork} (hv : NV n) : SmallW n := by
 obtain ⟨⟨a1, a2, a3, a4⟩, _, _, ⟨_, _, hN, _⟩, _⟩ := hv
 exact ⟨by show _ ≤ 1000000; omega, by show _ ≤ 1000000; omega, by show _ ≤ 1000000; omega, fun x hx => valid_small' (hN x hx).1⟩
end Go.Proofs.YtdiagiflihpidaaDoor
namespace Go.Proofs.YtdiagiflihpidaaDoor
open Go Go.EV
set_option maxRecDepth 100000
noncomputable def g104_1 (p0 : Nat) (p1 : Int) (p2 : Int) (p3 : (List SFlight)) : TT (((List SFlight) × Nat)) :=
 .opr 1006 (Rule.cap3u (ty := tySFlight) (t := 75) (e := 144) (z := 9) (.tmp 8) (.tmp 9) (.tmp 10) (.tmp 12) 13 1000000 p0 p3 .i64 .i64 .i64 p1 p2 (p0 : Int) (by kernel_rfl) (by kernel_rfl)) fun _ =>
 .br 0 (p1 == p2)
 (.done (p3, p0))
 (.chk 5003 (decide (0 ≤ p1) && decide (p1 ≤ (p0 : Int))) (.chk 5006 (decide (0 ≤ p2) && decide (p2 ≤ (p0 : Int)))
  (.opr 5007 (Rule.appSame (ty := tySFlight) (t := 75) (t2 := 75) (e := 144) (e2 := 144) (z := 9) (.tmp 22) (.tmp 25) 26 1000000 p1.toNat p2.toNat (p0 - p2.toNat) p3 (by kernel_rfl) (by kernel_rfl) (by kernel_rfl) (fun _ => rfl)) fun _ =>
  .opr 6005 (Rule.cap2 (ty := tySFlight) (t := 75) (e := 144) (z := 9) (.tmp 27) (.tmp 29) (.tmp 30) 31 1000000 (p1.toNat + (p0 - p2.toNat)) (over p3 p1.toNat ((p3.drop p2.toNat).take (p0 - p2.toNat))) .i64 .i64 (((p1.toNat + (p0 - p2.toNat)) : Nat) : Int) (p0 : Int) (by kernel_rfl) (by kernel_rfl)) fun _ =>
  .opr 6006 (Rule.clear (ty := tySFlight) (t := 75) (e := 144) (z := 9) (.tmp 31) 1000000 ((((p1.toNat + (p0 - p2.toNat)) : Nat) : Int)).toNat ((p0 : Int).toNat - ((((p1.toNat + (p0 - p2.toNat)) : Nat) : Int)).toNat) (over p3 p1.toNat ((p3.drop p2.toNat).take (p0 - p2.toNat))) (SFlight.mk 0 0 0 0 (SAddr.mk ByteArray.empty 0) (SAddr.mk ByteArray.empty 0) ByteArray.empty) (by kernel_rfl) (by kernel_rfl) (by kernel_rfl) (by rfl) (fun _ => rfl)) fun _ =>
  .done ((over (over p3 p1.toNat ((p3.drop p2.toNat).take (p0 - p2.toNat))) ((((p1.toNat + (p0 - p2.toNat)) : Nat) : Int)).toNat (List.replicate ((p0 : Int).toNat - ((((p1.toNat + (p0 - p2.toNat)) : Nat) : Int)).toNat) (SFlight.mk 0 0 0 0 (SAddr.mk ByteArray.empty 0) (SAddr.mk ByteArray.empty 0) ByteArray.empty))), (p1.toNat + (p0 - p2.toNat))))))
theorem k104_1 (p0 : Nat) (p1 : Int) (p2 : Int) (p3 : (List SFlight)) : FnB Tryd.prog GG [0, 1, 2, 6, 7, 16] Tryd.f104 [.ref 1000000 0 p0, .int .i64 p1, .int .i64 p2] (Ext.of .normal (argTs [.ref 1000000 0 p0, .int .i64 p1, .int .i64 p2]) [] [BT.of 1000000 tySFlight 9 p3 true] (by rfl)) (g104_1 p0 p1 p2 p3) (fun (r : ((List SFlight) × Nat)) => .ref 1000000 0 r.2) (fun (r : ((List SFlight) × Nat)) => Ext.of .normal [] [] [BT.of 1000000 tySFlight 9 r.1 true] (by rfl)) := by unfold FnB; kernel_rfl
noncomputable def s104_1 (p0 : Nat) (p1 : Int) (p2 : Int) (p3 : (List SFlight)) : EV.Spec Tryd.prog GG (((List SFlight) × Nat)) := .ofFnB 104 [1000000] mixed Tryd.func104 rfl (fun _ => rfl) (k104_1 p0 p1 p2 p3)
noncomputable def g107_1 (p0 : SFlight) (p1 : Nat) (p2 : Int) (p3 : Int) (p4 : (List SHost1)) (p5 : (List SNat)) (p6 : (List SFlight)) : TT ((List SNat) × ByteArray × Int × Int × Nat) :=
 .view 1007 (s123 p5 p0) [(VwW.of 1000002 tySNat p5)] fun r728 =>
 .cnd 2 [37]
 (.br 2004 (decide (r728 < 0))
  (.done true)
  (.br 2009 (r728 == p0.fVia)
   (.chk 2015 (decide (0 ≤ r728) && decide (r728 < (p5.length : Int))) (.row 2017 tySNat p5 (0 + r728.toNat) true fun x729 =>
    .done (!x729.fHairpin)))
   (.done false)))
 (fun (c730 : Bool) => [.bool c730]) fun c730 =>
 .br 0 c730
 (.done (p5, p0.fTo.fHost, p0.fTo.fPort, (-1), p1))
 (.chk 4007 (decide (0 ≤ r728) && decide (r728 < (p5.length : Int))) (.row 4008 tySNat p5 (0 + r728.toNat) true fun x731 =>
  .call 4018 (s27 x731 p2 p0.fFrom p0.fTo) [] [] fun r732 =>
  .br 0 (r732.2.2 != 0)
  (.done (p5, p0.fTo.fHost, p0.fTo.fPort, (-1), p1))
  (.chk 7008 (decide (0 ≤ r728) && decide (r728 < (p5.length : Int))) (.row 7009 tySNat p5 (0 + r728.toNat) true fun x733 =>
   .re 7009 (ReW.put 1000002 9 tySNat p5 (0 + r728.toNat) r732.1) (.gh 10 (.len 1000002 ((p5.set (0 + r728.toNat) r732.1).length) [p5.length] (by simp)) (.view 8006 (s95 (SCarrier.mk (SNetwork.mk p4 (p5.set (0 + r728.toNat) r732.1) (p6.take p1) p2 p3)) (SPlace.mk r728 r732.2.1.fHost)) [(VwW.of 1000001 tySHost1 p4), (VwW.of 1000002 tySNat (p5.set (0 + r728.toNat) r732.1)), (VwW.part 1000003 tySFlight p6 p1)] fun r734 =>
   .done ((p5.set (0 + r728.toNat) r732.1), r732.2.1.fHost, r732.2.1.fPort, r734, p1)))))))
theorem k107_1 (p0 : SFlight) (p1 : Nat) (p2 : Int) (p3 : Int) (p4 : (List SHost1)) (p5 : (List SNat)) (p6 : (List SFlight)) : FnB Tryd.prog GG [0, 1, 3, 4, 5, 6, 7, 8, 9, 10, 37, 63] Tryd.f107 [.ptr 1000000 0 0, .agg [.int .i64 p0.fDue, .int .i64 p0.fSerial, .int .i64 p0.fVia, .int .i64 p0.fWithin, .str p0.fFrom.fHost, .int .i64 p0.fFrom.fPort, .str p0.fTo.fHost, .int .i64 p0.fTo.fPort, .str p0.fData]] (Ext.of .normal (argTs [.ptr 1000000 0 0, .agg [.int .i64 p0.fDue, .int .i64 p0.fSerial, .int .i64 p0.fVia, .int .i64 p0.fWithin, .str p0.fFrom.fHost, .int .i64 p0.fFrom.fPort, .str p0.fTo.fHost, .int .i64 p0.fTo.fPort, .str p0.fData]]) [(1000000, ⟨5, true, [[.ref 1000001 0 p4.length, .ref 1000002 0 p5.length, .ref 1000003 0 p1, .int .i64 p2, .int .i64 p3]]⟩)] [BT.of 1000001 tySHost1 5 p4 true, BT.of 1000002 tySNat 9 p5 true, BT.of 1000003 tySFlight 9 p6 true] (by rfl)) (g107_1 p0 p1 p2 p3 p4 p5 p6) (fun (r : (List SNat) × ByteArray × Int × Int × Nat) => .tup [.int .i64 r.2.2.2.1, .agg [.str r.2.1, .int .i64 r.2.2.1], .bool true]) (fun (r : (List SNat) × ByteArray × Int × Int × Nat) => Ext.of .normal [] [(1000000, ⟨5, true, [[.ref 1000001 0 p4.length, .ref 1000002 0 r.1.length, .ref 1000003 0 r.2.2.2.2, .int .i64 p2, .int .i64 p3]]⟩)] [BT.of 1000001 tySHost1 5 p4 true, BT.of 1000002 tySNat 9 r.1 true, BT.of 1000003 tySFlight 9 p6 true] (by rfl)) := by unfold FnB; kernel_rfl
noncomputable def s107_1 (p0 : SFlight) (p1 : Nat) (p2 : Int) (p3 : Int) (p4 : (List SHost1)) (p5 : (List SNat)) (p6 : (List SFlight)) : EV.Spec Tryd.prog GG ((List SNat) × ByteArray × Int × Int × Nat) := .ofFnB 107 [1000001, 1000002, 1000003] mixed Tryd.func107 rfl (fun _ => rfl) (k107_1 p0 p1 p2 p3 p4 p5 p6)
noncomputable def g77_1 (p0 : Nat) (p1 : Int) (p2 : Int) (p3 : (List SHost1)) (p4 : (List SNat)) (p5 : (List SFlight)) : TT ((List SNat) × Int × ByteArray × Int × Nat × (List SFlight) × Int × ByteArray × Int × ByteArray) :=
 .view 1002 (s76 (SCarrier.mk (SNetwork.mk p3 p4 (p5.take p0) p1 p2))) [(VwW.of 1000001 tySHost1 p3), (VwW.of 1000002 tySNat p4), (VwW.part 1000003 tySFlight p5 p0)] fun r717 =>
 .chk 2007 (decide (0 ≤ r717) && decide (r717 < (p0 : Int))) (.row 2008 tySFlight p5 (0 + r717.toNat) true fun x718 =>
 .call 3010 (s104_1 p0 r717 (wi64 (r717 + 1)) p5) [(1000000, 1000003)] [] fun r719 =>
 .tt (.view 9003 (s105 (SCarrier.mk (SNetwork.mk p3 p4 (r719.1.take r719.2) (if x718.fDue > p1 then x718.fDue else p1) p2)) x718) [(VwW.of 1000001 tySHost1 p3), (VwW.of 1000002 tySNat p4), (VwW.part 1000003 tySFlight r719.1 r719.2)] fun r720 =>
 .br 0 r720.2.2
 (.done (p4, r720.1, r720.2.1.fHost, r720.2.1.fPort, r719.2, r719.1, (if x718.fDue > p1 then x718.fDue else p1), x718.fFrom.fHost, x718.fFrom.fPort, x718.fData))
 (.tt (.gh 11 (.drop [9]) (.view 9003 (s106 (SCarrier.mk (SNetwork.mk p3 p4 (r719.1.take r719.2) (if x718.fDue > p1 then x718.fDue else p1) p2)) x718) [(VwW.of 1000001 tySHost1 p3), (VwW.of 1000002 tySNat p4), (VwW.part 1000003 tySFlight r719.1 r719.2)] fun r721 =>
  .br 0 r721.2.2
  (.done (p4, r721.1, r721.2.1.fHost, r721.2.1.fPort, r719.2, r719.1, (if x718.fDue > p1 then x718.fDue else p1), x718.fFrom.fHost, x718.fFrom.fPort, x718.fData))
  (.tt (.gh 11 (.drop [9]) (.call 9003 (s107_1 x718 r719.2 (if x718.fDue > p1 then x718.fDue else p1) p2 p3 p4 r719.1) [(1000000, 1000000), (1000001, 1000001), (1000002, 1000002), (1000003, 1000003)] [] fun r728 =>
   .tt (.done (r728.1, r728.2.2.2.1, r728.2.1, r728.2.2.1, r728.2.2.2.2, r719.1, (if x718.fDue > p1 then x718.fDue else p1), x718.fFrom.fHost, x718.fFrom.fPort, x718.fData))))))))))
theorem k77_1 (p0 : Nat) (p1 : Int) (p2 : Int) (p3 : (List SHost1)) (p4 : (List SNat)) (p5 : (List SFlight)) : FnB Tryd.prog GG [0, 2, 3, 4, 5, 7, 8, 9, 10, 59, 60, 61, 70] Tryd.f77 [.ptr 1000000 0 0] (Ext.of .normal (argTs [.ptr 1000000 0 0]) [(1000000, ⟨5, true, [[.ref 1000001 0 p3.length, .ref 1000002 0 p4.length, .ref 1000003 0 p0, .int .i64 p1, .int .i64 p2]]⟩)] [BT.of 1000001 tySHost1 5 p3 true, BT.of 1000002 tySNat 9 p4 true, BT.of 1000003 tySFlight 9 p5 true] (by rfl)) (g77_1 p0 p1 p2 p3 p4 p5) (fun (r : (List SNat) × Int × ByteArray × Int × Nat × (List SFlight) × Int × ByteArray × Int × ByteArray) => .agg [.int .i64 r.2.1, .str r.2.2.2.2.2.2.2.1, .int .i64 r.2.2.2.2.2.2.2.2.1, .str r.2.2.1, .int .i64 r.2.2.2.1, .str r.2.2.2.2.2.2.2.2.2]) (fun (r : (List SNat) × Int × ByteArray × Int × Nat × (List SFlight) × Int × ByteArray × Int × ByteArray) => Ext.of .normal [] [(1000000, ⟨5, true, [[.ref 1000001 0 p3.length, .ref 1000002 0 r.1.length, .ref 1000003 0 r.2.2.2.2.1, .int .i64 r.2.2.2.2.2.2.1, .int .i64 p2]]⟩)] [BT.of 1000001 tySHost1 5 p3 true, BT.of 1000002 tySNat 9 r.1 true, BT.of 1000003 tySFlight 9 r.2.2.2.2.2.1 true] (by rfl)) := by unfold FnB; kernel_rfl
noncomputable def s77_1 (p0 : Nat) (p1 : Int) (p2 : Int) (p3 : (List SHost1)) (p4 : (List SNat)) (p5 : (List SFlight)) : EV.Spec Tryd.prog GG ((List SNat) × Int × ByteArray × Int × Nat × (List SFlight) × Int × ByteArray × Int × ByteArray) := .ofFnB 77 [1000001, 1000002, 1000003] mixed Tryd.func77 rfl (fun _ => rfl) (k77_1 p0 p1 p2 p3 p4 p5)
end Go.Proofs.YtdiagiflihpidaaDoor
namespace Go.Proofs.YtdiagiflihpidaaDoor
open Go Go.EV
set_option maxRecDepth 100000
structure RnS where
 ns : List SNat
 q : List SFlight
 m : Nat
 now : Int
 out : List SDelivery
def dlC (d : SDelivery) : List V := [.int .i64 d.fHost, .str d.fFrom.fHost, .int .i64 d.fFrom.fPort, .str d.fTo.fHost, .int .i64 d.fTo.fPort, .str d.fData]
def rnTs (u : Int) : List (Nat × V) := [(1, .int .i64 u), (4, .ptr 1000004 0 0), (7, .ptr 1000061 0 0), (9, .ptr 1000009 0 0), (31, .fn 96 [] [.ptr 1000065 0 0, .ptr 1000066 0 0])]
def rnL (hs : List SHost1) (serial u : Int) (s : RnS) (o : V) : List (Nat × Blk) :=
 [(1000004, ⟨5, true, [[.nilsl, .nilsl, .nilsl, .int .i64 0, .int .i64 0]]⟩), (1000009, ⟨1, true, [[o]]⟩), (1000061, ⟨5, true, [[.ref 1000062 0 hs.length, .ref 1000063 0 s.ns.length, .ref 1000064 0 s.m, .int .i64 s.now, .int .i64 serial]]⟩), (1000065, ⟨1, true, [[.ptr 1000061 0 0]]⟩), (1000066, ⟨1, true, [[.int .i64 u]]⟩)]
def rnT (hs : List SHost1) (s : RnS) : List BT := [BT.of 1000062 tySHost1 5 hs true, BT.of 1000063 tySNat 9 s.ns true, BT.of 1000064 tySFlight 9 s.q true]
def rnO (out : List SDelivery) : V := .sl true 6 (List.map tySDelivery.c out)
def rnX (ex : Exit) (ts : List (Nat × V)) (hs : List SHost1) (serial u : Int) (s : RnS) : Ext := Ext.of ex ts (rnL hs serial u s (rnO s.out)) (rnT hs s) (by rfl)
def rnB (hs : List SHost1) (serial u : Int) (s : RnS) : List (Nat × Blk) := (rnX .normal [] hs serial u s).bs
theorem gst_to {st : St} (x : Ext) {n : Nat} (hok : x.ok = true) (hn : st.n = n) (h : extTs x st = x.ts ∧ extBs x st = x.bs.map fun p => (p.1, some p.2)) : Gst GG st (x.D n).st := by
 subst hn; exact ext_ghost hok h.1 h.2
def cRn : Code → Code
 | .seq _ (.seq _ (.seq _ (.seq _ (.seq _ (.seq (.seq _ (.block _ c)) _))))) => c
 | _ => .skip
noncomputable def rnR : Code := cRn (Tryd.f41.body.getD .skip)
noncomputable def rnAs : Code := rAssign rnR
noncomputable def rnBd : Code := rBody rnR
def xRa (hs : List SHost1) (serial u : Int) (s : RnS) (d : SDelivery) : Ext := rnX .normal ((32, .agg (dlC d)) :: rnTs u) hs serial u s
def xRb (hs : List SHost1) (serial u : Int) (s : RnS) (d : SDelivery) : Ext := Ext.of .normal (rnTs u ++ [(10, .ptr 10 0 0)]) ((10, ⟨6, true, [dlC d]⟩) :: rnL hs serial u s (rnO s.out)) (rnT hs s) (by rfl)
def xRc (hs : List SHost1) (serial u : Int) (s : RnS) (d : SDelivery) : Ext := Ext.of .normal (rnTs u ++ [(10, .ptr 10 0 0)]) ((10, ⟨6, true, [dlC d]⟩) :: rnL hs serial u s (.ref 70 0 s.out.length)) (BT.of 70 tySDelivery 6 s.out false :: rnT hs s) (by rfl)
def xRd (hs : List SHost1) (serial u : Int) (s : RnS) (d : SDelivery) (b : Bool) : Ext := bif b then Ext.of .normal [] (rnL hs serial u s (.ref 39 0 (s.out ++ [d]).length)) (BT.of 39 tySDelivery 6 (s.out ++ [d]) false :: rnT hs s) (by rfl) else Ext.of .normal [] (rnL hs serial u s (.ref 70 0 s.out.length)) (BT.of 70 tySDelivery 6 s.out false :: rnT hs s) (by rfl)
theorem kRa (hs : List SHost1) (serial u : Int) (s : RnS) (d : SDelivery) : Piece Tryd.prog GG [1, 4, 7, 9, 10, 31] 50 rnAs (xRa hs serial u s d) (.done () : TT Unit) (fun _ => xRb hs serial u s d) := by unfold Piece; kernel_rfl
def gRd (s : RnS) (d : SDelivery) : TT Bool :=
 .br 0 (decide ((0 : Int) ≤ d.fHost))
 (.app 10004 tySDelivery s.out [d] 72 false (by intro h; cases h) (.done true))
 (.done false)
theorem kRd (hs : List SHost1) (serial u : Int) (s : RnS) (d : SDelivery) : Piece Tryd.prog GG [35] 50 rnBd (xRc hs serial u s d) (gRd s d) (xRd hs serial u s d) := by unfold Piece; kernel_rfl
theorem strip_c (l : List SDelivery) : (List.map tySDelivery.c l).map (·.map V.strip) = List.map tySDelivery.c l := by
 rw [List.map_map]
 exact List.map_congr_left fun x _ => tySDelivery.st x
theorem nest9 {hs : List SHost1} {serial u : Int} {s : RnS} {o : List SDelivery} {d : Nat} (hd : d = 39 ∨ d = 70) {g : St} (h : Gst GG g ((Ext.of .normal [] (rnL hs serial u s (.ref d 0 o.length)) (BT.of d tySDelivery 6 o false :: rnT hs s) (by rcases hd with rfl | rfl <;> rfl)).D 50).st) :
  Gst GG g (susp 50 (fun _ => .undef) (ofL (rnB hs serial u { s with out := o }))) := by
 refine Gst.trans h (Gst.trans (Gst.nest (b := 1000009) (d := d) (i := 0) (j := 0) (off := 0) (k := ⟨1, true, [[.ref d 0 o.length]]⟩) (kd := ⟨6, false, List.map tySDelivery.c o⟩) (row := [.ref d 0 o.length]) ?_ ?_ (by show 1 < MAPS; decide) ?_ rfl (Nat.zero_le _) ?_ (tySDelivery.data o)) ?_)
 ·rcases hd with rfl | rfl <;> decide
 ·rcases hd with rfl | rfl <;> rfl
 ·rcases hd with rfl | rfl <;> rfl
 ·simp
 ·have e := ext_susp (x := rnX .normal [] hs serial u { s with out := o }) (by rfl) 50
  show Gst GG _ (susp 50 (tOf (rnX .normal [] hs serial u { s with out := o }).ts) (ofL (rnX .normal [] hs serial u { s with out := o }).bs))
  rw [← e]
  rcases hd with rfl | rfl
  ·exact gst_to _ (by rfl) rfl ⟨by rfl, by rfl⟩
  ·exact gst_to _ (by rfl) rfl ⟨by rfl, by rfl⟩
def rnOut (s : RnS) (d : SDelivery) (b : Bool) : RnS := { s with out := bif b then s.out ++ [d] else s.out }
theorem take9 {hs : List SHost1} {serial u : Int} {s : RnS} {d : SDelivery} {g : St} (h : Gst GG g ((xRb hs serial u s d).D 50).st) : Gst GG g ((xRc hs serial u s d).D 50).st := by
 refine Gst.trans h (Gst.trans (Gst.take (b := 1000009) (d := 70) (i := 0) (j := 0) (size := 6) (k := ⟨1, true, [[rnO s.out]]⟩) (row := [rnO s.out]) (rows := List.map tySDelivery.c s.out) rfl rfl (by decide) rfl rfl (by show 1 < MAPS; decide) (by decide)) ?_)
 unfold takeRef
 rw [strip_c, List.length_map]
 exact gst_to _ (by rfl) rfl ⟨by rfl, by rfl⟩
theorem round41 (hs : List SHost1) (serial u : Int) (s : RnS) (d : SDelivery) {b : Bool} (hb : (gRd s d).run = some b) :
  RoundT Tryd.prog GG 50 (tOf (rnTs u)) [32] rnAs rnBd (ofL (rnB hs serial u s)) [.agg (dlC d)] (fun e b' => e = .normal ∧ b' = ofL (rnB hs serial u (rnOut s d b))) := by
 refine ⟨((xRc hs serial u s d).D 50).st, ?_, ?_⟩
 ·have h := (kRa hs serial u s d).tv mixed (r := ()) rfl (by rfl)
  have e : ((xRa hs serial u s d).D 50).st = setP (susp 50 (tOf (rnTs u)) (ofL (rnB hs serial u s))) ([32].zip [.agg (dlC d)]) := by
   rw [ext_susp (by rfl)]
   exact (setP_susp 50 (rnTs u) _ 32 (.agg (dlC d))).symm
  rw [e] at h
  exact h.mono fun e s' hg => ⟨hg.1, take9 hg.2⟩
 ·refine ((kRd hs serial u s d).tv mixed hb (by cases b <;> rfl)).mono fun e s' hg => ?_
  obtain ⟨rfl, g⟩ := hg
  cases b with
  | true => exact ⟨_, 50, ⟨rfl, rfl⟩, nest9 (.inl rfl) g⟩
  | false => exact ⟨_, 50, ⟨rfl, rfl⟩, nest9 (.inr rfl) g⟩
def rnArgs (l : Nat) : List V := [.yld l, .ptr 1000065 0 0, .ptr 1000066 0 0]
noncomputable def c96 : Code := Tryd.f96.body.getD .skip
noncomputable def cLq : Code := cB (cB c96)
noncomputable def cR0 : Code := cL (cL cLq)
noncomputable def ops96 : Array Oper := rOps (cL (cB (cR cLq)))
theorem e96 : c96 = .block 0 (.loop cLq) := by kernel_rfl
theorem e96b : cLq = .seq (.seq cR0 (.cond (.tmp 24) .skip (.exit 0))) (.block 1 (.seq (.region 1 ops96 false) (.cond (.tmp 29) .ret .skip))) := by kernel_rfl
noncomputable def gR0 (hs : List SHost1) (serial u : Int) (s : RnS) : TT Bool :=
 .cnd 0 [24]
 (.br 9 (decide ((0 : Int) < (s.m : Int)))
  (.view 15 (s76 (SCarrier.mk (SNetwork.mk hs s.ns (s.q.take s.m) s.now serial))) [(VwW.of 1000062 tySHost1 hs), (VwW.of 1000063 tySNat s.ns), (VwW.part 1000064 tySFlight s.q s.m)] fun r =>
   .chk 16 (decide (0 ≤ r) && decide (r < (s.m : Int))) (.row 18 tySFlight s.q (0 + r.toNat) true fun x =>
   .done (decide (x.fDue ≤ u))))
  (.done false))
 (fun (c : Bool) => [.bool c]) fun c =>
 .done c
def xN (l : Nat) (hs : List SHost1) (serial u : Int) (s : RnS) : Ext := rnX .normal (argTs (rnArgs l)) hs serial u s
def xN0 (l : Nat) (hs : List SHost1) (serial u : Int) (s : RnS) (b : Bool) : Ext := rnX .normal (argTs (rnArgs l) ++ [(24, .bool b)]) hs serial u s
theorem kR0 (l : Nat) (hs : List SHost1) (serial u : Int) (s : RnS) : Piece Tryd.prog GG [0, 1, 2, 24] 30 cR0 (xN l hs serial u s) (gR0 hs serial u s) (xN0 l hs serial u s) := by unfold Piece; kernel_rfl
abbrev R77 := (List SNat) × Int × ByteArray × Int × Nat × (List SFlight) × Int × ByteArray × Int × ByteArray
def rnD (r : R77) : SDelivery := ⟨r.2.1, ⟨r.2.2.2.2.2.2.2.1, r.2.2.2.2.2.2.2.2.1⟩, ⟨r.2.2.1, r.2.2.2.1⟩, r.2.2.2.2.2.2.2.2.2⟩
def rnN (s : RnS) (r : R77) : RnS := ⟨r.1, r.2.2.2.2.2.1, r.2.2.2.2.1, r.2.2.2.2.2.2.1, s.out⟩
noncomputable def gR1 (hs : List SHost1) (serial : Int) (s : RnS) : TT R77 :=
 .call 1003 (s77_1 s.m s.now serial hs s.ns s.q) [(1000000, 1000061), (1000001, 1000062), (1000002, 1000063), (1000003, 1000064)] [] fun r => .done r
def xN1 (l : Nat) (hs : List SHost1) (serial u : Int) (s : RnS) (r : R77) : Ext := rnX .normal (argTs (rnArgs l) ++ [(25, .yld l), (27, .agg (dlC (rnD r)))]) hs serial u (rnN s r)
theorem kR1 (l : Nat) (hs : List SHost1) (serial u : Int) (s : RnS) : PieceOps Tryd.prog GG [0, 1, 2, 25, 27] 30 1 ops96 3 (xN l hs serial u s) (gR1 hs serial s) (xN1 l hs serial u s) := by unfold PieceOps; kernel_rfl
noncomputable def rnStep (hs : List SHost1) (serial u : Int) (s : RnS) : Option (RnS ⊕ RnS) :=
 match (gR0 hs serial u s).run with
 | none => none
 | some c => bif c then (match (gR1 hs serial s).run with
  | none => none
  | some r => match (gRd (rnN s r) (rnD r)).run with
   | none => none
   | some b => some (.inl (rnOut (rnN s r) (rnD r) b))) else some (.inr s)
noncomputable def runM (hs : List SHost1) (serial u : Int) (s : RnS) : Option RnS := iter (rnStep hs serial u) FUEL s
noncomputable def rnYL (u : Int) : YL := ⟨50, tOf (rnTs u), #[32], rnAs, rnBd⟩
theorem iter96 (hs : List SHost1) (serial u : Int) (s0 : RnS) {r : RnS} (h : runM hs serial u s0 = some r) :
  IterT Tryd.prog GG c96 30 rnArgs (ofL (rnB hs serial u s0)) (rnYL u) (fun e b => e = .normal ∧ b = ofL (rnB hs serial u r)) := by
 refine IterT.of fun l => ?_
 have e0 : entry 30 (rnArgs l) (ofL (rnB hs serial u s0)) = ((xN l hs serial u s0).D 30).st := (entry_ext (x := xN l hs serial u s0) (by rfl) (by rfl) 30).symm
 rw [e0, e96]
 refine YT.block ?_
 refine YT.loop (fun m s => s.x = .normal ∧ ∃ y : RnS, Gst GG s.st ((xN l hs serial u y).D 30).st ∧ iter (rnStep hs serial u) m y = some r) (fun m s hI => ?_) (n := FUEL) ⟨rfl, s0, Gst.same _, h⟩
 obtain ⟨x, st⟩ := s
 obtain ⟨rfl, y, g, hit⟩ := hI
 refine YT.gst g ?_
 cases m with
 | zero => simp [iter] at hit
 | succ m =>
  rw [iter_succ] at hit
  rw [e96b]
  cases hc : (gR0 hs serial u y).run with
  | none =>
   have hs0 : rnStep hs serial u y = none := by unfold rnStep; rw [hc]
   rw [hs0] at hit; simp at hit
  | some c =>
   refine YT.seq (YT.seq (YT.piece (kR0 l hs serial u y) mixed hc (by rfl) fun s g => ?_))
   show YT _ _ _ _ _ _ _
   refine YT.gst g ?_
   cases c with
   | false =>
    have hs0 : rnStep hs serial u y = some (.inr y) := by unfold rnStep; rw [hc]; rfl
    rw [hs0] at hit
    obtain rfl : y = r := Option.some.inj hit
    refine YT.cond (b := false) rfl (YT.exit ?_)
    refine ⟨.inl rfl, 30, tOf (xN0 l hs serial u y false).ts, ofL (rnB hs serial u y), ?_, rfl, rfl⟩
    show Gst GG ((xN0 l hs serial u y false).D 30).st _
    rw [ext_susp (by rfl) 30]
    exact Gst.same _
   | true =>
    refine YT.cond (b := true) rfl (YT.skip ?_)
    show YT _ _ _ _ _ _ _
    cases h1 : (gR1 hs serial y).run with
    | none =>
     have hs0 : rnStep hs serial u y = none := by unfold rnStep; rw [hc]; simp only [cond_true]; rw [h1]
     rw [hs0] at hit; simp at hit
    | some a =>
     cases h2 : (gRd (rnN y a) (rnD a)).run with
     | none =>
      have hs0 : rnStep hs serial u y = none := by unfold rnStep; rw [hc]; simp only [cond_true]; rw [h1]; simp only; rw [h2]
      rw [hs0] at hit; simp at hit
     | some b =>
      have hs0 : rnStep hs serial u y = some (.inl (rnOut (rnN y a) (rnD a) b)) := by unfold rnStep; rw [hc]; simp only [cond_true]; rw [h1]; simp only; rw [h2]
      rw [hs0] at hit
      refine YT.gst (st' := ((xN l hs serial u y).D 30).st) (gst_to (xN l hs serial u y) (by rfl) rfl ⟨by rfl, by rfl⟩) ?_
      refine YT.block (YT.seq (YT.region ?_))
      show YTops _ _ _ _ _ ([0, 1, 2] ++ [3, 4]) _ _
      refine YTops.tv ((kR1 l hs serial u y).tv mixed h1 (by rfl)) fun e st hq => ⟨hq.1, YTops.gst hq.2 ?_⟩
      rw [ext_susp (x := xN1 l hs serial u y a) (by rfl) 30]
      refine YTops.yield (hi := rfl) rfl rfl rfl rfl rfl rfl rfl ?_ ?_ ?_ rfl (round41 hs serial u (rnN y a) (rnD a) h2) ?_ ?_
      ·exact fun i => tOf_ok (by rfl) i
      ·exact fun i => tOf_ok (by rfl) i
      ·intro p hp
       have : p ∈ [32] := hp
       simp at this
       subst this
       exact (by decide : 32 < 50)
      ·exact fun e b' h => .inl h.1
      ·intro e b' h
       obtain ⟨rfl, rfl⟩ := h
       refine YTops.step rfl (YTops.nil ?_)
       show YT _ _ _ _ _ _ _
       refine YT.cond (b := false) rfl (YT.skip ?_)
       refine ⟨m, Nat.lt_succ_self m, rfl, rnOut (rnN y a) (rnD a) b, ?_, hit⟩
       exact gst_to (xN l hs serial u (rnOut (rnN y a) (rnD a) b)) (by rfl) rfl ⟨by rfl, by rfl⟩
def rnFTs (u : Int) : List (Nat × V) := [(1, .int .i64 u), (4, .ptr 4 0 0), (7, .ptr 61 0 0), (9, .ptr 9 0 0)]
def rnFL (hs : List SHost1) (serial : Int) (s : RnS) : List (Nat × Blk) :=
 [(4, ⟨5, true, [[.nilsl, .nilsl, .nilsl, .int .i64 0, .int .i64 0]]⟩), (9, ⟨1, true, [[rnO s.out]]⟩), (61, ⟨5, true, [[.ref 62 0 hs.length, .ref 63 0 s.ns.length, .ref 64 0 s.m, .int .i64 s.now, .int .i64 serial]]⟩)]
def rnFC (u : Int) : List (Nat × Blk) := [(65, ⟨1, true, [[.ptr 61 0 0]]⟩), (66, ⟨1, true, [[.int .i64 u]]⟩)]
def rnFT (hs : List SHost1) (s : RnS) : List BT := [BT.of 62 tySHost1 5 hs true, BT.of 63 tySNat 9 s.ns true, BT.of 64 tySFlight 9 s.q true]
def xRun (hs : List SHost1) (serial u : Int) (s : RnS) : Ext := Ext.of .normal (rnFTs u ++ [(31, .fn 96 [] [.ptr 65 0 0, .ptr 66 0 0])]) (rnFL hs serial s ++ rnFC u) (rnFT hs s) (by rfl)
def eRun (hs : List SHost1) (serial u : Int) (s : RnS) : Ext := Ext.of .normal (rnFTs u) (rnFL hs serial s) (rnFT hs s) (by rfl)
theorem sh_rows {α : Type} (ty : Ty α) (l : List α) : (List.map ty.c l).map (renL sh) = List.map ty.c l := by
 have h : DataRows (l.map ty.c) := ty.data l
 have : (⟨0, true, List.map ty.c l⟩ : Blk).ren sh = ⟨0, true, List.map ty.c l⟩ := DataRows.ren (k := ⟨0, true, List.map ty.c l⟩) h sh
 have := congrArg Blk.rows this
 exact this
theorem bs41 (hs : List SHost1) (serial u : Int) (s : RnS) : shB (ofL (xRun hs serial u s).bs) = ofL (rnB hs serial u s) := by
 rw [shB_ofL]
 have : ((xRun hs serial u s).bs.map fun p => (sh p.1, p.2.ren sh)) = rnB hs serial u s := by
  simp only [xRun, Ext.of, rnFL, rnFC, rnFT, List.cons_append, List.nil_append, List.map_cons, List.map_nil, BT.of, Blk.ren, sh_rows]
  kernel_rfl
 rw [this]
theorem loop41 (hs : List SHost1) (serial u : Int) (s : RnS) {r : RnS} (h : runM hs serial u s = some r) :
  TV Tryd.prog GG (.rangeFunc (.tmp 31) #[32] rnAs rnBd) ((xRun hs serial u s).D 50).st (fun e st => e = .normal ∧ Gst GG st ((eRun hs serial u r).D 50).st) := by
 have ht : (fun i => renV sh (((xRun hs serial u s).D 50).st.t i)) = tOf (rnTs u) := by
  have : ((xRun hs serial u s).D 50).st.t = tOf (xRun hs serial u s).ts := rfl
  rw [this, tOf_shift]
  have : ((xRun hs serial u s).ts.map fun p => (p.1, renV sh p.2)) = rnTs u := by kernel_rfl
  rw [this]
 have hb : Tryd.f96.body = some c96 := by kernel_rfl
 refine TV.range (f := 96) (fi := Tryd.f96) (c := c96) (caps := [.ptr 1000065 0 0, .ptr 1000066 0 0]) (R := fun e b => e = .normal ∧ b = ofL (rnB hs serial u r)) ?_ Tryd.func96 hb (by kernel_rfl) (by kernel_rfl) ?_ ?_ ?_
 ·show some ((fun i => renV sh (((xRun hs serial u s).D 50).st.t i)) 31) = _
  rw [ht]; rfl
 ·intro b k hk
  obtain ⟨q, h1, rfl, _⟩ := find_b (show ofL (xRun hs serial u s).bs b = some k from hk)
  show (((xRun hs serial u s).us).contains q.1 || uTop q.1) = true
  simp only [Ext.us, Bool.or_eq_true, List.contains_eq_mem, decide_eq_true_eq]
  exact .inl (List.mem_map.2 ⟨q, h1, rfl⟩)
 ·have hbb : shB ((xRun hs serial u s).D 50).st.b = ofL (rnB hs serial u s) := bs41 hs serial u s
  rw [ht, hbb]
  have e : max Tryd.f96.ntmps (1 + [V.ptr 1000065 0 0, V.ptr 1000066 0 0].length) = 30 := by kernel_rfl
  rw [e]
  exact iter96 hs serial u s h
 ·intro e b' ho
  obtain ⟨rfl, rfl⟩ := ho
  refine ⟨.inl rfl, ofL (xRun hs serial u r).bs, (bs41 hs serial u r).symm, ?_, rfl, ?_⟩
  ·show (stOf 50 (xRun hs serial u s).ts (xRun hs serial u r).bs (xRun hs serial u s).us).known
   refine ⟨fun i b hm => ?_, fun i k hk => ?_⟩
   ·have hm' : b ∈ refsV (tOf (xRun hs serial u s).ts i) := hm
    unfold tOf at hm'
    cases hf : (xRun hs serial u s).ts.find? (fun p => p.1 == i) with
    | none => rw [hf] at hm'; simp [refsV] at hm'
    | some p =>
     rw [hf] at hm'
     have all : ((xRun hs serial u s).ts.all fun p => (refsV p.2).all fun b => (xRun hs serial u s).us.contains b) = true := by rfl
     have := List.all_eq_true.1 (List.all_eq_true.1 all p (List.mem_of_find?_eq_some hf)) b hm'
     show ((xRun hs serial u s).us.contains b || uTop b) = true
     rw [this]; rfl
   ·obtain ⟨q, h1, rfl, rfl⟩ := find_b (show ofL (xRun hs serial u r).bs i = some k from hk)
    have husl : (xRun hs serial u r).us = (xRun hs serial u s).us := rfl
    refine ⟨?_, fun b hm => ?_⟩
    ·show ((xRun hs serial u s).us.contains q.1 || uTop q.1) = true
     rw [← husl]
     simp only [Ext.us, Bool.or_eq_true, List.contains_eq_mem, decide_eq_true_eq]
     exact .inl (List.mem_map.2 ⟨q, h1, rfl⟩)
    ·have : q ∈ (rnFL hs serial r ++ rnFC u) ++ (rnFT hs r).map fun x => (x.id, x.k) := h1
     rcases List.mem_append.1 this with h2 | h2
     ·have all : ((rnFL hs serial r ++ rnFC u).all fun q => (refsL q.2.rows.flatten).all fun b => (xRun hs serial u s).us.contains b) = true := by rfl
      have := List.all_eq_true.1 (List.all_eq_true.1 all q h2) b hm
      show ((xRun hs serial u s).us.contains b || uTop b) = true
      rw [this]; rfl
     ·have hdat := bts_dat _ h2
      rw [hdat.refs] at hm; simp at hm
  ·show Gst GG (stOf 50 (xRun hs serial u s).ts (xRun hs serial u r).bs (xRun hs serial u s).us) _
   exact gst_to (eRun hs serial u r) (by rfl) rfl ⟨by rfl, by rfl⟩
noncomputable def subRun (hs : List SHost1) (ns : List SNat) (q : List SFlight) (now serial u : Int) : Sub Tryd.prog GG RnS :=
 ⟨.rangeFunc (.tmp 31) #[32] rnAs rnBd, 50, xRun hs serial u ⟨ns, q, q.length, now, []⟩, runM hs serial u ⟨ns, q, q.length, now, []⟩, eRun hs serial u, fun _ h => loop41 hs serial u _ h⟩
end Go.Proofs.YtdiagiflihpidaaDoor
namespace Go.Proofs.YtdiagiflihpidaaDoor
open Go Go.EV
set_option maxRecDepth 100000
theorem ok123 (l : List SNat) (f : SFlight) (hl : Small l) : SOk (s123 l f) (Find l (fun x => x.fHost = f.fTo.fHost)) := by
 show Ok (g123 l f) _
 unfold g123
 refine Ok.bind2 (R := Sum.elim (Find l (fun x => x.fHost = f.fTo.fHost)) (fun _ => ∀ x, x ∈ l → ¬ x.fHost = f.fTo.fHost)) ?_ (fun e he => Ok.done he) fun e he => Ok.done (.inr ⟨rfl, he⟩)
 refine Ok.scan l.length hl (fun k y => y = (k : Int) ∧ ∀ j x, j < k → l[j]? = some x → ¬ x.fHost = f.fTo.fHost) ⟨rfl, by simp⟩ (fun k y hI hlt => ?_) fun y hI => ?_
 ·obtain ⟨rfl, i1⟩ := hI
  obtain ⟨x, hx, hx'⟩ := get_lt hlt
  refine Ok.brT (by simp [mlen_eq]; omega) (Ok.row (by simp) hx ?_)
  refine Ok.call (R := fun c => (c = true ↔ x.fHost = f.fTo.fHost)) ?_ fun c hc => Ok.br (fun h => Ok.done ?_) fun h => Ok.done ?_
  ·show Ok (g124 x f) _
   unfold g124
   exact Ok.done (by simp)
  ·exact .inl ⟨k, x, rfl, hx', hc.1 h, i1⟩
  ·exact ⟨wi64_nat hlt hl, upto2 i1 hx' fun hh => by rw [hc.2 hh] at h; simp at h⟩
 ·obtain ⟨rfl, i1⟩ := hI
  exact Ok.brF (by simp [mlen_eq]) (Ok.done (none_of_upto (p := fun x : SNat => x.fHost = f.fTo.fHost) i1))
abbrev DR := List SNat × SAddr × Int
def InwQ (hs : List SHost1) (ns : List SNat) (now : Int) (f : SFlight) (r : DR) : Prop :=
 ∃ i, Find ns (fun x => x.fHost = f.fTo.fHost) i ∧ ((i < 0 ∧ r = (ns, f.fTo, -1)) ∨ ∃ x, 0 ≤ i ∧ ns[i.toNat]? = some x ∧ ((i = f.fVia ∧ x.fHairpin = false ∧ r = (ns, f.fTo, -1)) ∨
  (¬ (i = f.fVia ∧ x.fHairpin = false) ∧ ∃ y, InQ x now f.fFrom f.fTo y ∧ ((y.2.2 ≠ 0 ∧ r = (ns, f.fTo, -1)) ∨ (y.2.2 = 0 ∧ ∃ j, Find hs (Here i y.2.1.fHost) j ∧ r = (ns.set i.toNat y.1, y.2.1, j))))))
def DelQ (hs : List SHost1) (ns : List SNat) (now : Int) (f : SFlight) (r : DR) : Prop :=
 (0 ≤ f.fWithin ∧ ∃ i, Find hs (Here f.fWithin f.fTo.fHost) i ∧ r = (ns, f.fTo, i)) ∨ (f.fWithin < 0 ∧ ∃ i, Find hs (Here (-1) f.fTo.fHost) i ∧ 0 ≤ i ∧ r = (ns, f.fTo, i)) ∨
 (f.fWithin < 0 ∧ (∃ i, Find hs (Here (-1) f.fTo.fHost) i ∧ i < 0) ∧ InwQ hs ns now f r)
def later (now due : Int) : Int := if due > now then due else now
def StepQ (n : SNetwork) (r : SNetwork × SDelivery) : Prop :=
 ∃ (k : Nat) (f : SFlight) (d : DR), FirstQ n.fQueue k ∧ n.fQueue[k]? = some f ∧ DelQ n.fHosts n.fNats (later n.fNow f.fDue) f d ∧
  r = (⟨n.fHosts, d.1, n.fQueue.eraseIdx k, later n.fNow f.fDue, n.fSerial⟩, ⟨d.2.2, f.fFrom, d.2.1, f.fData⟩)
theorem over_take {α : Type} (l r : List α) (p : Nat) (hp : p ≤ l.length) : (over l p r).take (p + r.length) = l.take p ++ r := by
 unfold over
 rw [List.take_append_of_le_length (by simp; omega), List.take_of_length_le (by simp; omega)]
theorem over_low {α : Type} (l r : List α) (p n : Nat) (hp : p ≤ l.length) (hn : n ≤ p) : (over l p r).take n = l.take n := by
 unfold over
 rw [List.append_assoc, List.take_append_of_le_length (by simp; omega), List.take_take, Nat.min_eq_left hn]
theorem cut_out {α : Type} (l z : List α) (i m p : Nat) (hi : i < m) (hm : m ≤ l.length) (hp : i + (m - (i + 1)) ≤ p) (hpl : p ≤ l.length) :
  (over (over l i ((l.drop (i + 1)).take (m - (i + 1)))) p z).take (i + (m - (i + 1))) = (l.take m).eraseIdx i := by
 have hr : ((l.drop (i + 1)).take (m - (i + 1))).length = m - (i + 1) := by simp; omega
 rw [over_low _ _ _ _ (by rw [over_length _ _ _ (by rw [hr]; omega)]; exact hpl) hp]
 have := over_take l ((l.drop (i + 1)).take (m - (i + 1))) i (by omega)
 rw [hr] at this
 rw [this, List.eraseIdx_eq_take_drop_succ, List.take_take, Nat.min_eq_left (by omega), List.drop_take]
theorem ok104_1 (k m : Nat) (q : List SFlight) (hk : k < m) (hm : m ≤ q.length) : SOk (s104_1 m (k : Int) ((k : Int) + 1) q) (fun r => r.2 ≤ r.1.length ∧ r.1.take r.2 = (q.take m).eraseIdx k) := by
 show Ok (g104_1 m (k : Int) ((k : Int) + 1) q) _
 unfold g104_1
 have e1 : ((k : Int)).toNat = k := Int.toNat_natCast k
 have e2 : ((k : Int) + 1).toNat = k + 1 := by omega
 have e3 : (((k + (m - (k + 1)) : Nat) : Int)).toNat = k + (m - (k + 1)) := Int.toNat_natCast _
 simp only [e1, e2, e3]
 have hr : ((q.drop (k + 1)).take (m - (k + 1))).length = m - (k + 1) := by simp; omega
 have hov : (over q k ((q.drop (k + 1)).take (m - (k + 1)))).length = q.length := over_length _ _ _ (by rw [hr]; omega)
 refine Ok.opr (r := ()) ?_ (Ok.brF (by simp; omega) (Ok.chk (by simp; omega) (Ok.chk (by simp; omega) (Ok.opr (r := ()) ?_ (Ok.opr (r := ()) ?_ (Ok.opr (r := ()) rfl (Ok.done ⟨?_, ?_⟩)))))))
 ·show (bif decide _ then some () else none) = some ()
  rw [decide_eq_true (by omega)]; rfl
 ·show (bif decide _ then some () else none) = some ()
  rw [decide_eq_true (by omega)]; rfl
 ·show (bif decide _ then some () else none) = some ()
  rw [decide_eq_true (by rw [hov]; omega)]; rfl
 ·simp only
  rw [over_length _ _ _ (by rw [hov]; simp; omega), hov]; omega
 ·exact cut_out q _ k m (k + (m - (k + 1))) hk hm (Nat.le_refl _) (by omega)
end Go.Proofs.YtdiagiflihpidaaDoor
namespace Go.Proofs.YtdiagiflihpidaaDoor
open Go Go.EV
set_option maxRecDepth 100000
def SmallNs (ns : List SNat) : Prop := Small ns ∧ ∀ x, x ∈ ns → SmallN x.fTable
theorem ok107_1 (f : SFlight) (m : Nat) (now serial : Int) (hs : List SHost1) (ns : List SNat) (q : List SFlight) (hhs : Small hs) (hns : SmallNs ns) : SOk (s107_1 f m now serial hs ns q) (fun r => InwQ hs ns now f (r.1, ⟨r.2.1, r.2.2.1⟩, r.2.2.2.1) ∧ r.2.2.2.2 = m) := by
 show Ok (g107_1 f m now serial hs ns q) _
 unfold g107_1
 refine Ok.view (ok123 ns f hns.1) fun i hi => ?_
 refine Ok.cnd (R := fun c => (c = true ↔ i < 0 ∨ (i = f.fVia ∧ ∃ x, ns[i.toNat]? = some x ∧ x.fHairpin = false))) ?_ fun c hc => ?_
 ·refine Ok.br (fun h => Ok.done ?_) fun h => ?_
  ·simp at h ⊢; exact .inl h
  have h0 : 0 ≤ i := by simp at h; exact h
  obtain ⟨x, hx, _, hl1, hl2⟩ := hi.at h0
  refine Ok.br (fun h2 => Ok.chk (by simp; omega) (Ok.row rfl (by rw [Nat.zero_add]; exact hx) (Ok.done ?_))) fun h2 => Ok.done ?_
  ·simp only [beq_iff_eq] at h2
   simp only [Bool.not_eq_true']
   exact ⟨fun h => .inr ⟨h2, x, hx, h⟩, fun h => by
    rcases h with h | ⟨_, y, h3, h4⟩
    ·omega
    ·rw [hx] at h3; rw [Option.some.inj h3]; exact h4⟩
  ·simp only [beq_eq_false_iff_ne, ne_eq] at h2
   simp only [Bool.false_eq_true, false_iff, not_or]
   exact ⟨by omega, fun h => h2 h.1⟩
 ·refine Ok.br (fun h => Ok.done ⟨⟨i, hi, ?_⟩, rfl⟩) fun h => ?_
  ·rcases hc.1 h with h1 | ⟨h1, x, h2, h3⟩
   ·exact .inl ⟨h1, rfl⟩
   ·by_cases h0 : i < 0
    ·exact .inl ⟨h0, rfl⟩
    ·exact .inr ⟨x, by omega, h2, .inl ⟨h1, h3, rfl⟩⟩
  ·have hno : ¬ (i < 0 ∨ (i = f.fVia ∧ ∃ x, ns[i.toNat]? = some x ∧ x.fHairpin = false)) := fun hh => by rw [hc.2 hh] at h; simp at h
   have h0 : 0 ≤ i := by
    rcases Int.lt_or_le i 0 with h1 | h1
    ·exact absurd (.inl h1) hno
    ·exact h1
   obtain ⟨x, hx, _, hl1, hl2⟩ := hi.at h0
   have hno2 : ¬ (i = f.fVia ∧ x.fHairpin = false) := fun hh => hno (.inr ⟨hh.1, x, hx, hh.2⟩)
   refine Ok.chk (by simp; omega) (Ok.row rfl (by rw [Nat.zero_add]; exact hx) ?_)
   refine Ok.call (ok27 x _ _ _ (hns.2 x (List.mem_of_getElem? hx))) fun y hy => Ok.br (fun h1 => Ok.done ⟨⟨i, hi, .inr ⟨x, h0, hx, .inr ⟨hno2, y, hy, .inl ⟨by simpa using h1, rfl⟩⟩⟩⟩, rfl⟩) fun h1 => ?_
   refine Ok.chk (by simp; omega) (Ok.row rfl (by rw [Nat.zero_add]; exact hx) (Ok.re (Ok.gh (Ok.view (ok95 _ _ hhs) fun j hj => Ok.done ⟨⟨i, hi, .inr ⟨x, h0, hx, .inr ⟨hno2, y, hy, .inr ⟨by simpa using h1, j, hj, ?_⟩⟩⟩⟩, rfl⟩))))
   simp only [Nat.zero_add]
theorem ok77_1 {m : Nat} {now serial : Int} {hs : List SHost1} {ns : List SNat} {q : List SFlight} (hv : NV ⟨hs, ns, q.take m, now, serial⟩) (hq : q.take m ≠ []) (hm : m ≤ q.length) : SOk (s77_1 m now serial hs ns q) (fun r => StepQ ⟨hs, ns, q.take m, now, serial⟩ (⟨hs, r.1, r.2.2.2.2.2.1.take r.2.2.2.2.1, r.2.2.2.2.2.2.1, serial⟩, rnD r) ∧ r.2.2.2.2.1 ≤ r.2.2.2.2.2.1.length) := by
 have hw := nv_small hv
 have hhs : Small hs := hw.1
 have hns : SmallNs ns := ⟨hw.2.1, hw.2.2.2⟩
 show Ok (g77_1 m now serial hs ns q) _
 unfold g77_1
 refine Ok.view (ok76 (SCarrier.mk ⟨hs, ns, q.take m, now, serial⟩) hq hw.2.2.1) fun i hi => ?_
 have hi' := hi
 obtain ⟨k, f, rfl, hf, _⟩ := hi'
 have hf : (q.take m)[k]? = some f := hf
 have hlt : k < (q.take m).length := (List.getElem?_eq_some_iff.1 hf).1
 have hsm : (q.take m).length ≤ 1000000 := hw.2.2.1
 have hlen : k < m := by simp at hlt; omega
 have e1 : wi64 ((k : Int) + 1) = (k : Int) + 1 := wi64_id (by omega) (by omega)
 rw [e1]
 refine Ok.chk (by simp; omega) (Ok.row rfl (x := f) (by rw [Nat.zero_add, Int.toNat_natCast]; exact (by rw [List.getElem?_take, if_pos hlen] at hf; exact hf)) ?_)
 refine Ok.call (ok104_1 k m q hlen hm) fun q' hq' => ?_
 have el : (if f.fDue > now then f.fDue else now) = later now f.fDue := rfl
 rw [el]
 refine Ok.tt (Ok.view (R := fun r => (r.2.2 = true ↔ 0 ≤ f.fWithin) ∧ r.2.1 = f.fTo ∧ Find hs (Here f.fWithin f.fTo.fHost) r.1) ?_ fun r hr => ?_)
 ·show Ok (g105 _ _) _
  unfold g105
  exact Ok.call (ok95 _ _ hhs) fun j hj => Ok.done ⟨by simp, rfl, hj⟩
 obtain ⟨hr1, hr2, hr3⟩ := hr
 refine Ok.br (fun h => Ok.done ⟨⟨k, f, (ns, f.fTo, r.1), hi, hf, .inl ⟨hr1.1 h, r.1, hr3, rfl⟩, ?_⟩, hq'.1⟩) fun h => ?_
 ·simp only [hr2, hq'.2, rnD]
 have hw0 : f.fWithin < 0 := by
  rcases Int.lt_or_le f.fWithin 0 with h1 | h1
  ·exact h1
  ·rw [hr1.2 h1] at h; simp at h
 refine Ok.tt (Ok.gh (Ok.view (R := fun r => (r.2.2 = true ↔ 0 ≤ r.1) ∧ r.2.1 = f.fTo ∧ Find hs (Here (-1) f.fTo.fHost) r.1) ?_ fun r hr => ?_))
 ·show Ok (g106 _ _) _
  unfold g106
  exact Ok.call (ok95 _ _ hhs) fun j hj => Ok.done ⟨by simp, rfl, hj⟩
 obtain ⟨hr1, hr2, hr3⟩ := hr
 refine Ok.br (fun h => Ok.done ⟨⟨k, f, (ns, f.fTo, r.1), hi, hf, .inr (.inl ⟨hw0, r.1, hr3, hr1.1 h, rfl⟩), ?_⟩, hq'.1⟩) fun h => ?_
 ·simp only [hr2, hq'.2, rnD]
 have hneg : r.1 < 0 := by
  rcases Int.lt_or_le r.1 0 with h1 | h1
  ·exact h1
  ·rw [hr1.2 h1] at h; simp at h
 refine Ok.tt (Ok.gh (Ok.call (ok107_1 f q'.2 (later now f.fDue) serial hs ns q'.1 hhs hns) fun d hd => Ok.tt (Ok.done ⟨⟨k, f, _, hi, hf, .inr (.inr ⟨hw0, ⟨r.1, hr3, hneg⟩, hd.1⟩), ?_⟩, by rw [hd.2]; exact hq'.1⟩)))
 simp only [hq'.2, hd.2, rnD]
end Go.Proofs.YtdiagiflihpidaaDoor
namespace Go.Proofs.YtdiagiflihpidaaDoor
open Go Go.EV
set_option maxRecDepth 100000
noncomputable def g71_1 (_ : Int) (_ : Int) (_ : Int) (_ : (List SHost1)) (_ : (List SNat)) (_ : (List SFlight)) : TT (Unit) :=
 .done ()
theorem k71_1 (p0 : Int) (p1 : Int) (p2 : Int) (p3 : (List SHost1)) (p4 : (List SNat)) (p5 : (List SFlight)) : FnB Tryd.prog GG [0, 1, 2, 3, 4] Tryd.f71 [.ptr 1000000 0 0, .int .i64 p0] (Ext.of .normal (argTs [.ptr 1000000 0 0, .int .i64 p0]) [(1000000, ⟨5, true, [[.ref 1000001 0 p3.length, .ref 1000002 0 p4.length, .ref 1000003 0 p5.length, .int .i64 p1, .int .i64 p2]]⟩)] [BT.of 1000001 tySHost1 5 p3 true, BT.of 1000002 tySNat 9 p4 true, BT.of 1000003 tySFlight 9 p5 true] (by rfl)) (g71_1 p0 p1 p2 p3 p4 p5) (fun (_ : Unit) => .fn 96 [] [.ptr 2 0 0, .ptr 3 0 0]) (fun (_ : Unit) => Ext.of .normal [] [(2, ⟨1, true, [[.ptr 1000000 0 0]]⟩), (3, ⟨1, true, [[.int .i64 p0]]⟩), (1000000, ⟨5, true, [[.ref 1000001 0 p3.length, .ref 1000002 0 p4.length, .ref 1000003 0 p5.length, .int .i64 p1, .int .i64 p2]]⟩)] [BT.of 1000001 tySHost1 5 p3 true, BT.of 1000002 tySNat 9 p4 true, BT.of 1000003 tySFlight 9 p5 true] (by rfl)) := by unfold FnB; kernel_rfl
noncomputable def s71_1 (p0 : Int) (p1 : Int) (p2 : Int) (p3 : (List SHost1)) (p4 : (List SNat)) (p5 : (List SFlight)) : EV.Spec Tryd.prog GG (Unit) := .ofFnB 71 [1000001, 1000002, 1000003] mixed Tryd.func71 rfl (fun _ => rfl) (k71_1 p0 p1 p2 p3 p4 p5)
noncomputable def g41 (p0 : SNetwork) (p1 : Int) : TT (SNetwork × (List SDelivery) × Int) :=
 .call2 1002 (s67 p0) [] [(7, 500139), (500100, 500140), (500101, 500141), (500102, 500142)] (fun r729 =>
  .ff (.tt (.done ((SNetwork.mk [] [] [] 0 0), [], 140))))
 (fun r730 =>
  .call 2007 (s68 p1 p0.fNow 1099511627776) [] [] fun r731 =>
  .bind 0
  (.br 0 (!r731)
   (.done 2)
   (.done 0))
  (fun (e732 : Int) => Ext.of .normal [(1, .int .i64 p1), (4, .ptr 4 0 0), (5, .nilsl), (6, .int .i64 0), (7, .ptr 500139 0 0), (8, .int .i64 e732)] [(4, ⟨5, true, [[.nilsl, .nilsl, .nilsl, .int .i64 0, .int .i64 0]]⟩), (500139, ⟨5, true, [[.ref 500140 0 p0.fHosts.length, .ref 500141 0 p0.fNats.length, .ref 500142 0 p0.fQueue.length, .int .i64 p0.fNow, .int .i64 p0.fSerial]]⟩)] [BT.of 500140 tySHost1 5 p0.fHosts true, BT.of 500141 tySNat 9 p0.fNats true, BT.of 500142 tySFlight 9 p0.fQueue true] (by rfl))
  (fun e732 =>
   .br 0 (e732 != 0)
   (.done ((SNetwork.mk [] [] [] 0 0), [], e732))
   (.call 7003 (s71_1 p1 p0.fNow p0.fSerial p0.fHosts p0.fNats p0.fQueue) [(1000000, 500139), (1000001, 500140), (1000002, 500141), (1000003, 500142)] [(2, 500143), (3, 500144)] fun r733 =>
    .gh 1 (.ren 500139 61) (.gh 1 (.ren 500140 62) (.gh 1 (.ren 500141 63) (.gh 1 (.ren 500142 64) (.gh 1 (.ren 500143 65) (.gh 1 (.ren 500144 66) (.gh 1 (.tell 9 [[.sl true 6 []]]) (.sub (subRun p0.fHosts p0.fNats p0.fQueue p0.fNow p0.fSerial p1) fun r734 =>
    .gh 0 (.share (VwW.of 62 tySHost1 p0.fHosts) 1) (.gh 0 (.share (VwW.of 63 tySNat r734.ns) 1) (.gh 0 (.share (VwW.part 64 tySFlight r734.q r734.m) 1) (.done ((SNetwork.mk p0.fHosts r734.ns (r734.q.take r734.m) p1 p0.fSerial), r734.out, 0))))))))))))))
theorem k41 (p0 : SNetwork) (p1 : Int) : FnD Tryd.prog GG [0, 1, 2, 4, 5, 6, 7, 8, 9, 10, 24, 26, 31, 32, 35] Tryd.f41 [.agg [.sl false 5 (List.map tySHost1.c p0.fHosts), .sl false 9 (List.map tySNat.c p0.fNats), .sl false 9 (List.map tySFlight.c p0.fQueue), .int .i64 p0.fNow, .int .i64 p0.fSerial], .int .i64 p1] (g41 p0 p1) (fun r => .tup [.agg [.sl false 5 (List.map tySHost1.c r.1.fHosts), .sl false 9 (List.map tySNat.c r.1.fNats), .sl false 9 (List.map tySFlight.c r.1.fQueue), .int .i64 r.1.fNow, .int .i64 r.1.fSerial], .sl false 6 (List.map tySDelivery.c r.2.1), .int .i64 r.2.2]) := by unfold FnD; kernel_rfl
noncomputable def s41 (p0 : SNetwork) (p1 : Int) : EV.Spec Tryd.prog GG (SNetwork × (List SDelivery) × Int) := .ofFn 41 mixed Tryd.func41 (k41 p0 p1)
end Go.Proofs.YtdiagiflihpidaaDoor
namespace Go.Proofs.YtdiagiflihpidaaDoor
open Go Go.EV
set_option maxRecDepth 100000
theorem hn_mono {k now now' : Int} {hs : List SHost1} {ns : List SNat} (h : HNOk k now hs ns) (hle : now ≤ now') : HNOk k now' hs ns :=
 ⟨h.1, h.2.1, fun x hx => ⟨(h.2.2.1 x hx).1, Int.le_trans (h.2.2.1 x hx).2.1 hle, (h.2.2.1 x hx).2.2⟩, h.2.2.2⟩
theorem map_set_same {α β : Type} {f : α → β} {l : List α} {i : Nat} {x y : α} (hx : l[i]? = some x) (h : f y = f x) : (l.set i y).map f = l.map f := by
 rw [List.map_set, h]
 refine List.ext_getElem? fun j => ?_
 rw [List.getElem?_set]
 split
 ·rename_i e
  subst e
  split
  ·rw [List.getElem?_map, hx]; rfl
  ·rename_i hl
   rw [List.getElem?_eq_none (by omega)]
 ·rfl
theorem hn_set {k now : Int} {hs : List SHost1} {ns : List SNat} {i : Nat} {x y : SNat} (h : HNOk k now hs ns) (hx : ns[i]? = some x) (hv : Valid y) (hh : y.fHost = x.fHost) (hn : y.fNow ≤ now) : HNOk k now hs (ns.set i y) := by
 obtain ⟨h1, h2, h3, h4, h5⟩ := h
 have mem : ∀ z, z ∈ ns.set i y → z ∈ ns ∨ z = y := fun z hz => List.mem_or_eq_of_mem_set hz
 have hxm := List.mem_of_getElem? hx
 refine ⟨h1, by simpa using h2, fun z hz => ?_, by rw [map_set_same hx hh]; exact h4, fun z hz => ?_⟩
 ·rcases mem z hz with hz | rfl
  ·exact h3 z hz
  ·exact ⟨hv, hn, by rw [hh]; exact (h3 x hxm).2.2⟩
 ·rcases mem z hz with hz | rfl
  ·exact h5 z hz
  ·rw [hh]; exact h5 x hxm
theorem in_ok {n : SNat} {now : Int} {a b : SAddr} {r : SNat × SAddr × Int} (h : InQ n now a b r) (h0 : r.2.2 = 0) : Valid n ∧ Time n now [a, b] ∧ b.fHost = n.fHost ∧ ∃ x, x ∈ keep now n.fTable ∧ x.fPort = b.fPort ∧ Lets n x a ∧ r = (atT n now, x.fInside, 0) := by
 rcases h with ⟨_, rfl⟩ | ⟨_, _, rfl⟩ | ⟨h1, h2, ⟨x, h3, h4, h5, rfl⟩ | ⟨_, rfl⟩⟩
 ·simp at h0
 ·simp at h0
 ·exact ⟨h1, h2.1, h2.2, x, h3, h4, h5, rfl⟩
 ·simp at h0
theorem del_valid {hs : List SHost1} {ns : List SNat} {k now : Int} {f : SFlight} {r : DR} (h : DelQ hs ns now f r) (hv : HNOk k now hs ns) : HNOk k now hs r.1 ∧ r.1.length = ns.length ∧ -1 ≤ r.2.2 ∧ r.2.2 < hs.length := by
 rcases h with ⟨_, i, h2, rfl⟩ | ⟨_, i, h2, _, rfl⟩ | ⟨_, ⟨j0, hj0, _⟩, i, h1, h2⟩
 ·exact ⟨hv, rfl, h2.low⟩
 ·exact ⟨hv, rfl, h2.low⟩
 have l0 := hj0.low
 have none : HNOk k now hs ns ∧ ns.length = ns.length ∧ (-1 : Int) ≤ -1 ∧ (-1 : Int) < hs.length := ⟨hv, rfl, by omega, by omega⟩
 rcases h2 with ⟨_, rfl⟩ | ⟨x, _, hx, ⟨_, _, rfl⟩ | ⟨_, y, hy, ⟨_, rfl⟩ | ⟨h0, j, hj, rfl⟩⟩⟩
 ·exact none
 ·exact none
 ·exact none
 obtain ⟨v1, v2, _, z, _, _, _, rfl⟩ := in_ok hy h0
 refine ⟨hn_set hv hx (valid_at v1 v2.1 v2.2.1) rfl (Int.le_refl _), by simp, hj.low⟩
theorem later_ge (now due : Int) : now ≤ later now due ∧ due ≤ later now due := by
 unfold later
 split <;> omega
theorem later_le {now due u : Int} (h1 : now ≤ u) (h2 : due ≤ u) : later now due ≤ u := by
 unfold later
 split <;> omega
theorem queue_sub {k m serial : Int} {q q' : List SFlight} (h : QueueOk k m serial q) (hs : q'.Sublist q) : QueueOk k m serial q' :=
 ⟨fun f hf => h.1 f (hs.subset hf), h.2.sublist (hs.map _)⟩
theorem step_valid {n m : SNetwork} {d : SDelivery} (hv : NV n) (h : StepQ n (m, d)) : NV m ∧ m.fQueue.length + 1 = n.fQueue.length ∧ (-1 ≤ d.fHost ∧ d.fHost < n.fHosts.length) ∧ m.fHosts = n.fHosts ∧ m.fNats.length = n.fNats.length := by
 obtain ⟨k, f, r, h1, h2, h3, h4⟩ := h
 simp only [Prod.mk.injEq] at h4
 obtain ⟨rfl, rfl⟩ := h4
 obtain ⟨⟨a1, a2, a3, a4⟩, a5, a6, a7, a8⟩ := hv
 have hk : k < n.fQueue.length := (List.getElem?_eq_some_iff.1 h2).1
 have hd := (a8.1 f (List.mem_of_getElem? h2)).1.1
 have hg := later_ge n.fNow f.fDue
 have hle := later_le (u := 1099511627776) a5.2 hd.2
 obtain ⟨d1, d2, d3, d4⟩ := del_valid h3 (hn_mono a7 hg.1)
 have hlen : (n.fQueue.eraseIdx k).length = n.fQueue.length - 1 := List.length_eraseIdx_of_lt hk
 refine ⟨⟨⟨a1, a2, by rw [d2]; exact a3, by rw [hlen]; omega⟩, ⟨by show (0 : Int) ≤ later n.fNow f.fDue; omega, hle⟩, a6, d1, ?_⟩, by rw [hlen]; omega, ⟨d3, d4⟩, rfl, d2⟩
 show QueueOk (hostLen n.fHosts) r.1.length n.fSerial (n.fQueue.eraseIdx k)
 rw [d2]
 exact queue_sub a8 (List.eraseIdx_sublist _ _)
inductive Runs (u : Int) : SNetwork → List SDelivery → SNetwork → Prop
 | stop {n : SNetwork} (h : n.fQueue = [] ∨ ∃ (k : Nat) (f : SFlight), FirstQ n.fQueue k ∧ n.fQueue[k]? = some f ∧ u < f.fDue) : Runs u n [] n
 | step {n m o : SNetwork} {d : SDelivery} {l : List SDelivery} {k : Nat} {f : SFlight} (h1 : FirstQ n.fQueue k) (h2 : n.fQueue[k]? = some f) (h3 : f.fDue ≤ u) (h4 : StepQ n (m, d)) (h5 : Runs u m l o) : Runs u n ((if 0 ≤ d.fHost then [d] else []) ++ l) o
def setNow (n : SNetwork) (u : Int) : SNetwork := ⟨n.fHosts, n.fNats, n.fQueue, u, n.fSerial⟩
def rnNet (hs : List SHost1) (serial : Int) (s : RnS) : SNetwork := ⟨hs, s.ns, s.q.take s.m, s.now, serial⟩
theorem Ok.sub {P : Program} {G : Nat → Option (List V)} {ρ ε : Type} {S : Sub P G ε} {k : ε → T P G ρ} {Q : ρ → Prop} {R : ε → Prop} (hs : ∃ r, S.o = some r ∧ R r) (h : ∀ r, R r → Ok (k r) Q) : Ok (.sub S k) Q := by
 obtain ⟨x, e1, hr⟩ := hs
 obtain ⟨r, e, hq⟩ := h x hr
 exact ⟨r, by simp only [T.run, e1]; exact e, hq⟩
theorem rn_first (hs : List SHost1) (serial u : Int) (s : RnS) (hv : NV (rnNet hs serial s)) (hm : s.m ≤ s.q.length) :
  Ok (gR0 hs serial u s) (fun c => (c = true ∧ ∃ (k : Nat) (f : SFlight), FirstQ (s.q.take s.m) k ∧ (s.q.take s.m)[k]? = some f ∧ f.fDue ≤ u) ∨
   (c = false ∧ (s.q.take s.m = [] ∨ ∃ (k : Nat) (f : SFlight), FirstQ (s.q.take s.m) k ∧ (s.q.take s.m)[k]? = some f ∧ u < f.fDue))) := by
 unfold gR0
 refine Ok.cnd (R := fun c => (c = true ∧ ∃ (k : Nat) (f : SFlight), FirstQ (s.q.take s.m) k ∧ (s.q.take s.m)[k]? = some f ∧ f.fDue ≤ u) ∨
   (c = false ∧ (s.q.take s.m = [] ∨ ∃ (k : Nat) (f : SFlight), FirstQ (s.q.take s.m) k ∧ (s.q.take s.m)[k]? = some f ∧ u < f.fDue))) ?_ fun c hc => Ok.done hc
 refine Ok.br (fun h => ?_) fun h => Ok.done (.inr ⟨rfl, .inl ?_⟩)
 ·have h0 : 0 < s.m := by simpa using h
  have hlen : (s.q.take s.m).length = s.m := by simp; omega
  have hne : s.q.take s.m ≠ [] := fun e => by rw [e] at hlen; simp at hlen; omega
  refine Ok.view (ok76 (SCarrier.mk (rnNet hs serial s)) hne (nv_small hv).2.2.1) fun i hi => ?_
  have hi' := hi
  obtain ⟨k, f, rfl, hf, _⟩ := hi'
  have hf : (s.q.take s.m)[k]? = some f := hf
  have hlt : k < s.m := by have := (List.getElem?_eq_some_iff.1 hf).1; omega
  refine Ok.chk (by simp; omega) (Ok.row rfl (x := f) (by rw [Nat.zero_add, Int.toNat_natCast]; rw [List.getElem?_take, if_pos hlt] at hf; exact hf) (Ok.done ?_))
  by_cases hd : f.fDue ≤ u
  ·exact .inl ⟨by simpa using hd, k, f, hi, hf, hd⟩
  ·exact .inr ⟨by simpa using hd, .inr ⟨k, f, hi, hf, by omega⟩⟩
 ·simp at h; rw [h]; rfl
theorem rn_run (hs : List SHost1) (serial u : Int) : ∀ (n : Nat) (s : RnS), NV (rnNet hs serial s) → s.m ≤ s.q.length → s.m < n → s.out.length + s.m ≤ 64 →
  ∃ r, iter (rnStep hs serial u) n s = some r ∧ r.m ≤ r.q.length ∧ ∃ l, Runs u (rnNet hs serial s) l (rnNet hs serial r) ∧ r.out = s.out ++ l
 | 0, s, _, _, h, _ => absurd h (Nat.not_lt_zero _)
 | n + 1, s, hv, hm, hn, ho => by
  rw [iter_succ]
  obtain ⟨c, hc, hcq⟩ := rn_first hs serial u s hv hm
  rcases hcq with ⟨rfl, k, f, h1, h2, h3⟩ | ⟨rfl, h1⟩
  ·have hne : s.q.take s.m ≠ [] := fun e => by rw [e] at h2; simp at h2
   obtain ⟨a, ha, haq, ham⟩ : Ok (gR1 hs serial s) (fun r => StepQ (rnNet hs serial s) (⟨hs, r.1, r.2.2.2.2.2.1.take r.2.2.2.2.1, r.2.2.2.2.2.2.1, serial⟩, rnD r) ∧ r.2.2.2.2.1 ≤ r.2.2.2.2.2.1.length) := by
    unfold gR1
    exact Ok.call (ok77_1 hv hne hm) fun r hr => Ok.done hr
   have hlen : (s.q.take s.m).length = s.m := by simp; omega
   obtain ⟨v1, v2, _, _, _⟩ := step_valid hv haq
   have hm2 : a.2.2.2.2.1 + 1 = s.m := by
    have : (a.2.2.2.2.2.1.take a.2.2.2.2.1).length + 1 = (s.q.take s.m).length := v2
    rw [List.length_take, Nat.min_eq_left ham, hlen] at this; exact this
   obtain ⟨b, hb, hbq⟩ : Ok (gRd (rnN s a) (rnD a)) (fun b => b = decide ((0 : Int) ≤ (rnD a).fHost)) := by
    unfold gRd
    refine Ok.br (fun h => Ok.app ?_ (Ok.done h.symm)) fun h => Ok.done h.symm
    show (s.out.length + 1) * 72 ≤ 140737488355328
    omega
   have hs0 : rnStep hs serial u s = some (.inl (rnOut (rnN s a) (rnD a) b)) := by unfold rnStep; rw [hc]; simp only [cond_true]; rw [ha]; simp only; rw [hb]
   rw [hs0]
   have hlo : (rnOut (rnN s a) (rnD a) b).out = s.out ++ (if 0 ≤ (rnD a).fHost then [rnD a] else []) := by
    subst hbq
    by_cases h : (0 : Int) ≤ (rnD a).fHost
    ·simp [rnOut, rnN, h]
    ·simp [rnOut, rnN, h]
   have hll : (rnOut (rnN s a) (rnD a) b).out.length ≤ s.out.length + 1 := by
    rw [hlo, List.length_append]; split <;> simp
   obtain ⟨r, r1, r2, l, r3, r4⟩ := rn_run hs serial u n (rnOut (rnN s a) (rnD a) b) v1 ham (by show a.2.2.2.2.1 < n; omega) (by show (rnOut (rnN s a) (rnD a) b).out.length + a.2.2.2.2.1 ≤ 64; omega)
   exact ⟨r, r1, r2, _, .step h1 h2 h3 haq r3, by rw [r4, hlo, List.append_assoc]⟩
  ·have hs0 : rnStep hs serial u s = some (.inr s) := by unfold rnStep; rw [hc]; rfl
   rw [hs0]
   exact ⟨s, rfl, hm, [], .stop h1, by simp⟩
theorem t41 {n : SNetwork} {u : Int} (hv : NV n) (h1 : n.fNow ≤ u) (h2 : u ≤ 1099511627776) : SOk (s41 n u) (fun r => ∃ l o, Runs u n l o ∧ r = (setNow o u, l, 0)) := by
 show Ok (g41 n u) _
 unfold g41
 refine Ok.call2 (t67 hv) (fun r hr => by cases hr) fun r hr => ?_
 refine Ok.call (t68 ⟨h1, h2⟩) fun b hb => ?_
 refine Ok.bind (R := fun e => e = 0) (Ok.brF (by simp [hb]) (Ok.done rfl)) fun e he => ?_
 subst he
 refine Ok.brF rfl ?_
 refine Ok.call (R := fun _ => True) ⟨(), rfl, trivial⟩ fun _ _ => ?_
 refine Ok.gh (Ok.gh (Ok.gh (Ok.gh (Ok.gh (Ok.gh (Ok.gh ?_))))))
 have hl : n.fQueue.length ≤ 64 := hv.1.2.2.2
 have hnet : rnNet n.fHosts n.fSerial ⟨n.fNats, n.fQueue, n.fQueue.length, n.fNow, []⟩ = n := by
  unfold rnNet; simp only [List.take_length]
 obtain ⟨r, r1, r2, l, r3, r4⟩ := rn_run n.fHosts n.fSerial u FUEL ⟨n.fNats, n.fQueue, n.fQueue.length, n.fNow, []⟩ (by rw [hnet]; exact hv) (Nat.le_refl _) (fuel (by simp only; omega)) (by simp only [List.length_nil]; omega)
 rw [hnet] at r3
 refine Ok.sub (R := fun x => x = r) ⟨r, r1, rfl⟩ fun x hx => Ok.gh (Ok.gh (Ok.gh (Ok.done ?_)))
 subst hx
 simp only [List.nil_append] at r4
 exact ⟨l, _, r3, by rw [r4]; rfl⟩
end Go.Proofs.YtdiagiflihpidaaDoor
namespace Go.Proofs.YtdiagiflihpidaaDoor
open Go Go.EV
set_option maxRecDepth 100000
abbrev Way := Int × Int × SAddr × List SNat
def WayQ (hs : List SHost1) (ns : List SNat) (now : Int) (h : SHost1) (a to : SAddr) (w : Option Way) : Prop :=
 (h.fNat < 0 ∧ w = some (-1, -1, a, ns)) ∨ (0 ≤ h.fNat ∧ (∃ i, Find hs (Here h.fNat to.fHost) i ∧ 0 ≤ i) ∧ w = some (-1, h.fNat, a, ns)) ∨
 (0 ≤ h.fNat ∧ (∃ i, Find hs (Here h.fNat to.fHost) i ∧ i < 0) ∧ ∃ x, ns[h.fNat.toNat]? = some x ∧ ∃ y, OutQ x now a to y ∧ ((y.2.2 ≠ 0 ∧ w = none) ∨ (y.2.2 = 0 ∧ w = some (h.fNat, -1, y.2.1, ns.set h.fNat.toNat y.1))))
def bump (h : SHost1) : SHost1 := ⟨h.fIp, h.fNat, h.fDelay, h.fLose, h.fCount + 1⟩
def SendArg (n : SNetwork) (now : Int) (host : Nat) (port : Int) (to : SAddr) (data : ByteArray) (h : SHost1) : Prop :=
 (n.fNow ≤ now ∧ now ≤ 1099511627776) ∧ n.fHosts[host]? = some h ∧ (1 ≤ port ∧ port ≤ 65535) ∧ Usable to (hostLen n.fHosts) ∧ (data.size : Int) ≤ 1200 ∧ n.fSerial < 1099511627776 ∧ h.fCount < 1099511627776
def Lost (h : SHost1) : Prop := 0 < h.fLose ∧ Int.tmod (h.fCount + 1) h.fLose = 0
def laid (n : SNetwork) (now : Int) (h : SHost1) (to : SAddr) (data : ByteArray) (w : Way) : SFlight := ⟨now + h.fDelay, n.fSerial, w.1, w.2.1, w.2.2.1, to, data⟩
def SendQ (n : SNetwork) (now : Int) (host : Nat) (port : Int) (to : SAddr) (data : ByteArray) (h : SHost1) (m : SNetwork) : Prop :=
  (Lost h ∧ m = ⟨n.fHosts.set host (bump h), n.fNats, n.fQueue, now, n.fSerial⟩) ∨
  (¬ Lost h ∧ ∃ w, WayQ (n.fHosts.set host (bump h)) n.fNats now h ⟨h.fIp, port⟩ to w ∧
    ((w = none ∧ m = ⟨n.fHosts.set host (bump h), n.fNats, n.fQueue, now, n.fSerial⟩) ∨
     ∃ v, w = some v ∧ ((¬ (n.fQueue.length < 64 ∧ now + h.fDelay ≤ 1099511627776) ∧ m = ⟨n.fHosts.set host (bump h), v.2.2.2, n.fQueue, now, n.fSerial⟩) ∨
       ((n.fQueue.length < 64 ∧ now + h.fDelay ≤ 1099511627776) ∧ m = ⟨n.fHosts.set host (bump h), v.2.2.2, n.fQueue ++ [laid n now h to data v], now, n.fSerial + 1⟩))))
theorem hostLen_set {hs : List SHost1} {i : Nat} {h h' : SHost1} (hi : hs[i]? = some h) (he : h'.fIp = h.fIp) : hostLen (hs.set i h') = hostLen hs := by
 cases hs with
 | nil => rfl
 | cons a t =>
  cases i with
  | zero =>
   obtain rfl := Option.some.inj hi
   simp only [List.set_cons_zero, hostLen, he]
  | succ i => rfl
theorem out_valid {x : SNat} {now k : Int} {a b : SAddr} {y : SNat × SAddr × Int} (h : OutQ x now a b y) (h0 : y.2.2 = 0) (hk : (x.fHost.size : Int) = k) : Valid y.1 ∧ y.1.fHost = x.fHost ∧ y.1.fNow = now ∧ Usable y.2.1 k := by
 obtain ⟨v1, v2, v3, t, j, z, hb, rfl⟩ := out_ok h h0
 have hv := valid_out v1 v2 v3 hb
 refine ⟨hv, rfl, rfl, ?_⟩
 have hj := hb.at
 have hjl := (List.getElem?_eq_some_iff.1 hj).1
 have hm : upd (atT x now) b z ∈ (outN x now b t j z).fTable := List.mem_iff_getElem?.2 ⟨j, List.getElem?_set_self hjl⟩
 have hbd := ((allB_iff.1 hv.2).1 _ hm).1
 have h1 : x.fLow ≤ z.fPort := hbd.2.2.2.1
 have h2 : z.fPort ≤ x.fHigh := hbd.2.2.2.2.1
 have hp := v1.1.2.2.2.2.1
 have hs := v1.1.2.2.2.1
 refine ⟨⟨hk, by rw [hk] at hs; exact hs⟩, ?_, ?_⟩
 ·show 1 ≤ z.fPort; omega
 ·show z.fPort ≤ 65535; omega
theorem way_valid {hs : List SHost1} {ns : List SNat} {k now : Int} {h : SHost1} {a to : SAddr} {w : Way} (hw : WayQ hs ns now h a to (some w)) (hv : HNOk k now hs ns) (hh : -1 ≤ h.fNat ∧ h.fNat < ns.length) (ha : Usable a k) :
  HNOk k now hs w.2.2.2 ∧ w.2.2.2.length = ns.length ∧ (-1 ≤ w.1 ∧ w.1 < ns.length) ∧ (-1 ≤ w.2.1 ∧ w.2.1 < ns.length) ∧ (w.1 = -1 ∨ w.2.1 = -1) ∧ Usable w.2.2.1 k := by
 rcases hw with ⟨_, h2⟩ | ⟨h1, _, h2⟩ | ⟨h1, _, x, hx, y, hy, ⟨_, h2⟩ | ⟨h0, h2⟩⟩
 ·obtain rfl := Option.some.inj h2
  exact ⟨hv, rfl, by simp; omega, by simp; omega, .inl rfl, ha⟩
 ·obtain rfl := Option.some.inj h2
  exact ⟨hv, rfl, by simp; omega, by simp; omega, .inl rfl, ha⟩
 ·simp at h2
 ·obtain rfl := Option.some.inj h2
  have hxk := (hv.2.2.1 x (List.mem_of_getElem? hx)).2.2
  obtain ⟨o1, o2, o3, o4⟩ := out_valid hy h0 hxk
  exact ⟨hn_set hv hx o1 o2 (by omega), by simp, by simp; omega, by simp; omega, .inr rfl, o4⟩
theorem hosts_set {k now : Int} {hs : List SHost1} {ns : List SNat} {i : Nat} {h : SHost1} (hv : HNOk k now hs ns) (hi : hs[i]? = some h) (hc : h.fCount < 1099511627776) : HNOk k now (hs.set i (bump h)) ns := by
 obtain ⟨h1, ⟨h2, h2'⟩, h3, h4, h5⟩ := hv
 have hm := List.mem_of_getElem? hi
 have mem : ∀ z, z ∈ hs.set i (bump h) → z ∈ hs ∨ z = bump h := fun z hz => List.mem_or_eq_of_mem_set hz
 refine ⟨h1, ⟨fun z hz => ?_, by rw [map_set_same (y := bump h) hi rfl]; exact h2'⟩, h3, h4, fun x hx z hz => ?_⟩
 ·rcases mem z hz with hz | rfl
  ·exact h2 z hz
  ·obtain ⟨a1, a2, a3, a4, a5⟩ := h2 h hm
   exact ⟨a1, a2, a3, a4, by simp only [bump]; omega⟩
 ·rcases mem z hz with hz | rfl
  ·exact h5 x hx z hz
  ·exact h5 x hx h hm
theorem send_valid {n m : SNetwork} {now : Int} {host : Nat} {port : Int} {to : SAddr} {data : ByteArray} {h : SHost1} (hv : NV n) (ha : SendArg n now host port to data h) (hs : SendQ n now host port to data h m) :
  NV m ∧ m.fNow = now ∧ m.fHosts = n.fHosts.set host (bump h) ∧ m.fNats.length = n.fNats.length := by
 obtain ⟨b1, b2, b3, b4, b5, b6, b7⟩ := ha
 obtain ⟨⟨a1, a2, a3, a4⟩, a5, a6, a7, a8⟩ := hv
 have hm := List.mem_of_getElem? b2
 have hho := a7.2.1.1 h hm
 have hl := hostLen_set b2 (h' := bump h) rfl
 have h0 := hosts_set (hn_mono a7 b1.1) b2 b7
 have hq : ∀ {ns' : List SNat} {serial' : Int}, ns'.length = n.fNats.length → n.fSerial ≤ serial' → QueueOk (hostLen n.fHosts) ns'.length serial' n.fQueue := fun he hs' => by
  rw [he]
  refine ⟨fun f hf => ?_, a8.2⟩
  obtain ⟨⟨c1, c2, c3⟩, c4⟩ := a8.1 f hf
  exact ⟨⟨c1, by omega, c3⟩, c4⟩
 have usa : Usable ⟨h.fIp, port⟩ (hostLen n.fHosts) := ⟨⟨hho.1, a7.1⟩, b3⟩
 have plain : NV ⟨n.fHosts.set host (bump h), n.fNats, n.fQueue, now, n.fSerial⟩ :=
  ⟨⟨by simp; omega, by simp; omega, a3, a4⟩, ⟨by show 0 ≤ now; omega, b1.2⟩, a6, by show HNOk (hostLen (n.fHosts.set host (bump h))) _ _ _; rw [hl]; exact h0, by show QueueOk (hostLen (n.fHosts.set host (bump h))) _ _ _; rw [hl]; exact hq rfl (Int.le_refl _)⟩
 rcases hs with ⟨_, rfl⟩ | ⟨_, w, hw, ⟨_, rfl⟩ | ⟨v, rfl, ⟨_, rfl⟩ | ⟨hc, rfl⟩⟩⟩
 ·exact ⟨plain, rfl, rfl, rfl⟩
 ·exact ⟨plain, rfl, rfl, rfl⟩
 ·obtain ⟨w1, w2, _⟩ := way_valid hw h0 hho.2.1 usa
  exact ⟨⟨⟨by simp; omega, by simp; omega, by rw [w2]; exact a3, a4⟩, ⟨by show 0 ≤ now; omega, b1.2⟩, a6, by show HNOk (hostLen (n.fHosts.set host (bump h))) _ _ _; rw [hl]; exact w1, by show QueueOk (hostLen (n.fHosts.set host (bump h))) _ _ _; rw [hl]; exact hq w2 (Int.le_refl _)⟩, rfl, rfl, w2⟩
 ·obtain ⟨w1, w2, w3, w4, w5, w6⟩ := way_valid hw h0 hho.2.1 usa
  refine ⟨⟨⟨by simp; omega, by simp; omega, by rw [w2]; exact a3, by simp; omega⟩, ⟨by show 0 ≤ now; omega, b1.2⟩, ⟨by show 0 ≤ n.fSerial + 1; omega, by show n.fSerial + 1 ≤ _; omega⟩, by show HNOk (hostLen (n.fHosts.set host (bump h))) _ _ _; rw [hl]; exact w1, ?_⟩, rfl, rfl, w2⟩
  show QueueOk (hostLen (n.fHosts.set host (bump h))) _ _ _
  rw [hl]
  have q0 : QueueOk (hostLen n.fHosts) v.2.2.2.length (n.fSerial + 1) n.fQueue := hq w2 (by omega)
  refine ⟨fun f hf => ?_, ?_⟩
  ·rcases List.mem_append.1 hf with hf | hf
   ·exact q0.1 f hf
   ·obtain rfl := List.mem_singleton.1 hf
    rw [w2]
    have hd := hho.2.2.1
    exact ⟨⟨⟨by simp only [laid]; omega, hc.2⟩, by simp only [laid]; omega, w3, w4, w5, w6, b4, b5⟩, a6.1⟩
  ·rw [List.map_append, List.pairwise_append]
   refine ⟨a8.2, by simp, fun a ha b hb => ?_⟩
   obtain ⟨f, hf, rfl⟩ := List.mem_map.1 ha
   simp only [List.map_cons, List.map_nil, List.mem_singleton] at hb
   rw [hb]
   exact (a8.1 f hf).1.2.1
end Go.Proofs.YtdiagiflihpidaaDoor
namespace Go.Proofs.YtdiagiflihpidaaDoor
open Go Go.EV
set_option maxRecDepth 100000
theorem bump_at {hs : List SHost1} {k : Nat} {h : SHost1} (hh : hs[k]? = some h) : (hs.set k (bump h))[k]? = some (bump h) := List.getElem?_set_self (List.getElem?_eq_some_iff.1 hh).1
theorem set_len_lt {hs : List SHost1} {k : Nat} {h : SHost1} (hh : hs[k]? = some h) : k < hs.length := (List.getElem?_eq_some_iff.1 hh).1
theorem ok70 {n : SNetwork} {now port : Int} {k : Nat} {to : SAddr} {data : ByteArray} {h : SHost1} (hv : NV n) (ha : SendArg n now k port to data h) :
  SOk (s70 (k : Int) port to data now n.fSerial n.fHosts n.fNats n.fQueue) (fun r => SendQ n now k port to data h ⟨r.2.2.2, r.2.2.1, r.1, now, r.2.1⟩) := by
 obtain ⟨b1, b2, b3, b4, b5, b6, b7⟩ := ha
 have hw := nv_small hv
 obtain ⟨⟨a1, a2, a3, a4⟩, a5, a6, a7, a8⟩ := hv
 have hho := a7.2.1.1 h (List.mem_of_getElem? b2)
 have hkl := set_len_lt b2
 have hs' := bump_at b2
 have hcnt : wi64 (h.fCount + 1) = h.fCount + 1 := wi64_id (by have := hho.2.2.2.2; omega) (by omega)
 have hdel : wi64 (now + h.fDelay) = now + h.fDelay := wi64_id (by have := hho.2.2.1; omega) (by have := hho.2.2.1; omega)
 have hser : wi64 (n.fSerial + 1) = n.fSerial + 1 := wi64_id (by omega) (by omega)
 show Ok (g70 (k : Int) port to data now n.fSerial n.fHosts n.fNats n.fQueue) _
 unfold g70
 simp only [Nat.zero_add, Int.toNat_natCast]
 refine Ok.chk (by simp; omega) (Ok.row rfl b2 (Ok.row rfl b2 (Ok.re (Ok.gh ?_))))
 have eb : SHost1.mk h.fIp h.fNat h.fDelay h.fLose (wi64 (h.fCount + 1)) = bump h := by rw [hcnt]; rfl
 simp only [eb]
 refine Ok.cnd (R := fun c => (c = true ↔ Lost h)) ?_ fun c hc => ?_
 ·refine Ok.row rfl hs' (Ok.br (fun h1 => Ok.row rfl hs' (Ok.row rfl hs' (Ok.chk ?_ (Ok.done ?_)))) fun h1 => Ok.done ?_)
  ·have h2 : 0 < h.fLose := of_decide_eq_true h1
   show (!(h.fLose == 0)) = true
   simp; omega
  ·have h3 : 0 < h.fLose := of_decide_eq_true h1
   show ((Int.tmod (h.fCount + 1) h.fLose == 0) = true ↔ _)
   simp only [beq_iff_eq]
   exact ⟨fun h2 => ⟨h3, h2⟩, fun h2 => h2.2⟩
  ·have h3 : ¬ 0 < h.fLose := of_decide_eq_false h1
   simp only [Bool.false_eq_true, false_iff]
   exact fun h2 => h3 h2.1
 refine Ok.br (fun hl => Ok.gh (Ok.done (.inl ⟨hc.1 hl, rfl⟩))) fun hl => ?_
 have hnl : ¬ Lost h := fun hh => by rw [hc.2 hh] at hl; simp at hl
 refine Ok.row rfl hs' (Ok.row rfl hs' ?_)
 simp only [bump, hdel]
 refine Ok.bind2 (R := fun e => WayQ (n.fHosts.set k (bump h)) n.fNats now h ⟨h.fIp, port⟩ to (match e with | .inl q => some (q.1, q.2.1, ⟨q.2.2.1, q.2.2.2.1⟩, q.2.2.2.2) | .inr _ => none)) ?_ (fun e he => ?_) fun e he => ?_
 ·refine Ok.row rfl hs' (Ok.br (fun h1 => Ok.done (.inl ⟨of_decide_eq_true h1, rfl⟩)) fun h1 => ?_)
  have h0 : 0 ≤ h.fNat := Int.not_lt.1 (of_decide_eq_false h1)
  refine Ok.row rfl hs' (Ok.view (ok95 _ _ (by show (n.fHosts.set k _).length ≤ _; simpa using hw.1)) fun i hi => Ok.br (fun h2 => ?_) fun h2 => ?_)
  ·exact Ok.row rfl hs' (Ok.done (.inr (.inl ⟨h0, ⟨i, hi, by simpa using h2⟩, rfl⟩)))
  ·have hneg : i < 0 := by simpa using h2
   refine Ok.row rfl hs' ?_
   have hnl : h.fNat < n.fNats.length := hho.2.1.2
   obtain ⟨x, hx⟩ := at_of h0 hnl
   have hck : (decide (0 ≤ h.fNat) && decide (h.fNat < (n.fNats.length : Int))) = true := by simp; omega
   refine Ok.chk hck (Ok.row rfl (by exact hx) ?_)
   refine Ok.call (ok25 x _ _ _ (hw.2.2.2 x (List.mem_of_getElem? hx))) fun y hy => Ok.br (fun h3 => Ok.done (.inr (.inr ⟨h0, ⟨i, hi, hneg⟩, x, hx, y, hy, .inl ⟨by simpa using h3, rfl⟩⟩))) fun h3 => ?_
   refine Ok.row rfl hs' (Ok.row rfl hs' (Ok.chk hck (Ok.row rfl (by exact hx) (Ok.re (Ok.gh (Ok.done (.inr (.inr ⟨h0, ⟨i, hi, hneg⟩, x, hx, y, hy, .inr ⟨by simpa using h3, rfl⟩⟩))))))))
 ·refine Ok.cnd (R := fun c => (c = false ↔ n.fQueue.length < 64 ∧ now + h.fDelay ≤ 1099511627776)) ?_ fun c hc => Ok.br (fun h1 => Ok.gh (Ok.done (.inr ⟨hnl, _, he, .inr ⟨_, rfl, .inl ⟨fun hh => by rw [hc.2 hh] at h1; simp at h1, rfl⟩⟩⟩))) fun h1 => ?_
  ·refine Ok.br (fun h1 => Ok.done ?_) fun h1 => Ok.done ?_
   ·simp at h1 ⊢; omega
   ·simp at h1 ⊢; omega
  ·refine Ok.app ?_ (Ok.gh (Ok.done (.inr ⟨hnl, _, he, .inr ⟨_, rfl, .inr ⟨hc.1 h1, ?_⟩⟩⟩)))
   ·show (n.fQueue.length + 1) * 96 ≤ 140737488355328
    omega
   ·rw [hser]; rfl
 ·exact Ok.gh (Ok.done (.inr ⟨hnl, _, he, .inl ⟨rfl, rfl⟩⟩))
theorem t40 {n : SNetwork} {now port : Int} {k : Nat} {to : SAddr} {data : ByteArray} {h : SHost1} (hv : NV n) (ha : SendArg n now k port to data h) : SOk (s40 n now (k : Int) port to data) (fun r => SendQ n now k port to data h r.1 ∧ r.2 = 0) := by
 have ha' := ha
 obtain ⟨b1, b2, b3, b4, b5, b6, b7⟩ := ha'
 obtain ⟨h0, t, hh⟩ := nv_cons hv
 have hkl := set_len_lt b2
 have hle := hv.1.2.1
 show Ok (g40 n now (k : Int) port to data) _
 unfold g40
 refine Ok.call2 (t67 hv) (fun r hr => by cases hr) fun r hr => Ok.ff ?_
 have e1 : wi64 (mlen tySHost1 n.fHosts - 1) = (n.fHosts.length : Int) - 1 := by rw [mlen_eq, wi64_id (by omega) (by omega)]
 simp only [e1]
 refine Ok.cnd (R := fun c => c = false) ?_ fun c hc => Ok.brF hc (Ok.brF (by simp; omega) ?_)
 ·exact Ok.call (t68 b1) fun b hb => Ok.brF (by simp [hb]) (Ok.call (t68 (by omega)) fun b hb => Ok.brF (by simp [hb]) (Ok.call (t68 b3) fun b hb => Ok.brF (by simp [hb]) (Ok.view ((ok69 (SCarrier.mk n) to hh).mono fun b hb => hb.2 b4) fun b hb => Ok.done (by simp [hb]))))
 refine Ok.cnd (R := fun c => c = false) ?_ fun c hc => Ok.brF hc ?_
 ·exact Ok.brF (by simp; omega) (Ok.row (by simp) (by rw [Int.toNat_natCast]; exact b2) (Ok.done (by simp; omega)))
 ·refine Ok.call (ok70 (to := ⟨to.fHost, to.fPort⟩) hv ha) fun r hr => Ok.gh (Ok.gh (Ok.gh (Ok.done ⟨hr, rfl⟩)))
end Go.Proofs.YtdiagiflihpidaaDoor
namespace Go.Proofs.YtdiagiflihpidaaDoor
open Go Go.EV
set_option maxRecDepth 100000
def U8 (n : Int) : Prop := 0 ≤ n ∧ n ≤ 255
def PlaceOk (p : SPlace1) : Prop := U8 p.fNat ∧ U8 p.fIp ∧ U8 p.fDelay ∧ U8 p.fLose
def SendingOk (x : SSending) : Prop := U8 x.fHost ∧ U8 x.fPort ∧ U8 x.fTo ∧ (0 ≤ x.fAfter ∧ x.fAfter ≤ 65535)
def DraftW (d : SDraft1) : Prop := (∀ x, x ∈ d.fNats → DraftOk x) ∧ (∀ p, p ∈ d.fHosts → PlaceOk p) ∧ ∀ x, x ∈ d.fSent → SendingOk x
def hd (s : ByteArray) : Option UInt8 := s.data.toList.head?
theorem ok23w (k : Int) : SOk (s23 k) (fun a => Usable a 4 ∧ hd a.fHost = some 10) := by
 show Ok (g23 k) _
 unfold g23
 have h1 := tdiv_in k
 have h3 := Int.tmod_nonneg 5 h1.1
 have h2 := tmod_in (wu8 (Int.tdiv k 3)) (m := 5) (by omega)
 rw [wi64_id (n := Int.tmod (wu8 (Int.tdiv k 3)) 5) (by omega) (by omega), wi64_id (n := 5000 + Int.tmod (wu8 (Int.tdiv k 3)) 5) (by omega) (by omega)]
 refine Ok.done ⟨⟨⟨by simp [strOfNums_size], .inl rfl⟩, by simp only; omega, by simp only; omega⟩, by simp [hd, strOfNums]⟩
theorem ok24w (k : Int) : SOk (s24 k) (fun a => Usable a 4 ∧ hd a.fHost = some 198) := by
 show Ok (g24 k) _
 unfold g24
 have h1 := tdiv_in k
 have h3 := Int.tmod_nonneg 3 h1.1
 have h2 := tmod_in (wu8 (Int.tdiv k 3)) (m := 3) (by omega)
 rw [wi64_id (n := Int.tmod (wu8 (Int.tdiv k 3)) 3) (by omega) (by omega), wi64_id (n := 80 + Int.tmod (wu8 (Int.tdiv k 3)) 3) (by omega) (by omega)]
 refine Ok.done ⟨⟨⟨by simp [strOfNums_size], .inl rfl⟩, by simp only; omega, by simp only; omega⟩, by simp [hd, strOfNums]⟩
def natHost (j : Nat) : ByteArray := strOfNums [192, 0, 2, wu8 (9 + wu8 (j : Int))]
theorem natHost_hd (j : Nat) : hd (natHost j) = some 192 := by simp [hd, natHost, strOfNums]
theorem natHost_ne : natHost 0 ≠ natHost 1 := by decide
def NewNat (j : Nat) (x : SNat) : Prop := Valid x ∧ x.fNow = 0 ∧ x.fTable = [] ∧ x.fHost = natHost j
def NewNats (ns : List SNat) : Prop := ns.length ≤ 2 ∧ ∀ j x, ns[j]? = some x → NewNat j x
theorem newNats_ok {ns : List SNat} (h : NewNats ns) {hs : List SHost1} (hh : ∀ h, h ∈ hs → hd h.fIp ≠ some 192) : NatsOk 4 0 hs ns := by
 refine ⟨fun x hx => ?_, ?_, fun x hx z hz e => ?_⟩
 ·obtain ⟨j, hj⟩ := List.mem_iff_getElem?.1 hx
  obtain ⟨h1, h2, _, h4⟩ := h.2 j x hj
  exact ⟨h1, by omega, by rw [h4]; simp [natHost, strOfNums_size]⟩
 ·have e : ns.map SNat.fHost = (List.range ns.length).map natHost := by
   refine List.ext_getElem? fun j => ?_
   rw [List.getElem?_map, List.getElem?_map]
   rcases Nat.lt_or_ge j ns.length with hj | hj
   ·rw [List.getElem?_eq_getElem hj, List.getElem?_range hj]
    simp only [Option.map_some, (h.2 j ns[j] (List.getElem?_eq_getElem hj)).2.2.2]
   ·rw [List.getElem?_eq_none hj, List.getElem?_eq_none (by simpa using hj)]; rfl
  rw [e]
  have := h.1
  rcases Nat.lt_or_ge ns.length 1 with h1 | h1
  ·rw [show ns.length = 0 by omega]; simp
  rcases Nat.lt_or_ge ns.length 2 with h2 | h2
  ·rw [show ns.length = 1 by omega]; simp [List.range, List.range.loop]
  ·rw [show ns.length = 2 by omega]
   simp [List.range, List.range.loop]
   exact natHost_ne
 ·obtain ⟨j, hj⟩ := List.mem_iff_getElem?.1 hx
  obtain ⟨_, _, _, h4⟩ := h.2 j x hj
  exact hh z hz (by rw [e, h4]; exact natHost_hd j)
def NewHost (d : SDraft1) (m : Int) (h : SHost1) : Prop :=
 HostOk 4 m h ∧ h.fDelay ≤ 70 ∧ h.fCount = 0 ∧ hd h.fIp = some (if h.fNat < 0 then 198 else 10) ∧ (h.fLose = 0 ∨ ∃ p, p ∈ d.fHosts ∧ h.fLose = Int.tmod p.fLose 12)
def EmptyQ (d : SDraft1) (n : SNetwork) : Prop :=
 NV n ∧ n.fNow = 0 ∧ n.fSerial = 0 ∧ n.fQueue = [] ∧ NewNats n.fNats ∧ (∀ h, h ∈ n.fHosts → NewHost d n.fNats.length h) ∧ n.fHosts.length ≤ 6 ∧ hostLen n.fHosts = 4 ∧ n.fNats.length = min d.fNats.length 2
theorem empty_of {d : SDraft1} {hs : List SHost1} {ns : List SNat} (h0 : hs ≠ []) (h6 : hs.length ≤ 6) (hn : NewNats ns) (hh : ∀ h, h ∈ hs → NewHost d ns.length h) (hnd : (hs.map place).Nodup) (hl : ns.length = min d.fNats.length 2) : EmptyQ d ⟨hs, ns, [], 0, 0⟩ := by
 have hp : 1 ≤ hs.length := List.length_pos_iff.2 h0
 have hk : hostLen hs = 4 := by
  cases hs with
  | nil => exact absurd rfl h0
  | cons a t => exact (hh a (by simp)).1.1
 refine ⟨⟨⟨hp, by show hs.length ≤ 8; omega, by have := hn.1; show ns.length ≤ 4; omega, by simp⟩, ⟨by simp, by simp⟩, ⟨by simp, by simp⟩, ?_, ⟨by simp, by simp⟩⟩, rfl, rfl, rfl, hn, hh, h6, hk, hl⟩
 show HNOk (hostLen hs) 0 hs ns
 rw [hk]
 exact ⟨.inl rfl, ⟨fun h hm => (hh h hm).1, hnd⟩, newNats_ok hn fun h hm => by rw [(hh h hm).2.2.2.1]; split <;> simp⟩
theorem t39 {d : SDraft1} (hd : DraftW d) : SOk (s39 d) (EmptyQ d) := by
 show Ok (g39 d) _
 unfold g39
 refine Ok.gh (Ok.bind (R := fun e => NewNats e ∧ e.length = min d.fNats.length 2) ?_ fun ns hns => ?_)
 ·refine Ok.scan (min d.fNats.length 2) (by omega) (fun k y => y.2 = (k : Int) ∧ y.1.length = k ∧ ∀ j x, y.1[j]? = some x → NewNat j x) ⟨rfl, rfl, fun j x h => by simp at h⟩ (fun k y hI hlt => ?_) fun y hI => ?_
  ·obtain ⟨y1, y2⟩ := y
   obtain ⟨rfl, i1, i2⟩ := hI
   have i1 : y1.length = k := i1
   have hk : k < d.fNats.length := by omega
   obtain ⟨x, hx, hx'⟩ := get_lt hk
   refine Ok.cnd (R := fun c => c = true) (Ok.brT (by simp [mlen_eq]; omega) (Ok.done (by simp; omega))) fun c hc => Ok.brT hc (Ok.row (by simp) hx ?_)
   refine Ok.call (ok63v x (hd.1 x (List.mem_of_getElem? hx'))) fun r hr => Ok.app (by simp [i1]; omega) (Ok.gh (Ok.gh (Ok.done ⟨wi64_nat (n := 2) (by omega) (by omega), by simp [i1], fun j z hz => ?_⟩)))
   have hz : (y1 ++ [SNat.mk r.fMapping r.fFilter r.fTimeout r.fHairpin (natHost k) r.fLow r.fHigh r.fNow r.fTable])[j]? = some z := hz
   rcases Nat.lt_or_ge j k with hj | hj
   ·rw [List.getElem?_append_left (by omega)] at hz
    exact i2 j z hz
   ·have hj2 : j = k := by
     have := (List.getElem?_eq_some_iff.1 hz).1
     simp [i1] at this; omega
    subst hj2
    rw [← i1, List.getElem?_concat_length] at hz
    obtain rfl := Option.some.inj hz
    obtain ⟨r1, r2, r3, r4⟩ := hr
    have ht : r.fTable = [] := List.length_eq_zero_iff.1 (by have := r4.1; simpa using this)
    have hv := r2.1
    rw [i1]
    refine ⟨valid_nil ⟨hv.1, hv.2.1, hv.2.2.1, .inl (by simp [natHost, strOfNums_size]), hv.2.2.2.2.1, hv.2.2.2.2.2⟩ ht, ?_, ht, rfl⟩
    have := hv.2.2.2.2.2.1
    show r.fNow = 0
    omega
  ·obtain ⟨y1, y2⟩ := y
   obtain ⟨rfl, i1, i2⟩ := hI
   have i1 : y1.length = _ := i1
   refine Ok.cnd (R := fun c => c = false) (Ok.br (fun h => Ok.done ?_) fun h => Ok.done rfl) fun c hc => Ok.brF hc (Ok.done ⟨⟨by rw [i1]; omega, i2⟩, i1⟩)
   simp only [mlen_eq, decide_eq_true_eq] at h
   simp only [decide_eq_false_iff_not]; omega
 ·obtain ⟨hn, hnl⟩ := hns
  have hn2 := hn.1
  have e1 : wi64 ((ns.length : Int) + 1) = (ns.length : Int) + 1 := wi64_id (by omega) (by omega)
  simp only [e1]
  refine Ok.gh (Ok.bind (R := fun e => (∀ h, h ∈ e → NewHost d ns.length h) ∧ (e.map place).Nodup ∧ e.length ≤ 6) ?_ fun hs hhs => ?_)
  ·refine Ok.scan (min d.fHosts.length 6) (by omega) (fun k y => y.2 = (k : Int) ∧ y.1.length ≤ k ∧ (∀ h, h ∈ y.1 → NewHost d ns.length h) ∧ (y.1.map place).Nodup) ⟨rfl, Nat.le_refl _, fun h hh => by simp at hh, by simp⟩ (fun k y hI hlt => ?_) fun y hI => ?_
   ·obtain ⟨y1, y2⟩ := y
    obtain ⟨rfl, i1, i2, i3⟩ := hI
    have i1 : y1.length ≤ k := i1
    have hk : k < d.fHosts.length := by omega
    obtain ⟨x, hx, hx'⟩ := get_lt hk
    obtain ⟨p1, p2, p3, p4⟩ := hd.2.1 x (List.mem_of_getElem? hx')
    refine Ok.cnd (R := fun c => c = true) (Ok.brT (by simp [mlen_eq]; omega) (Ok.done (by simp; omega))) fun c hc => Ok.brT hc (Ok.row (by simp) hx ?_)
    have m1 := tmod_in x.fNat (m := (ns.length : Int) + 1) (by omega)
    have m2 := Int.tmod_nonneg ((ns.length : Int) + 1) p1.1
    have m3 := tmod_in x.fDelay (m := 8) (by omega)
    have m4 := Int.tmod_nonneg 8 p3.1
    have m5 := tmod_in x.fLose (m := 12) (by omega)
    have m6 := Int.tmod_nonneg 12 p4.1
    have p1' := p1.2
    have p1'' := p1.1
    have w1 := wi64_id (n := x.fNat) (by omega) (by omega)
    have w2 := wi64_id (n := Int.tmod x.fNat ((ns.length : Int) + 1) - 1) (by omega) (by omega)
    have w3 := wi64_id (n := Int.tmod x.fDelay 8) (by omega) (by omega)
    have w4 := wi64_id (n := 10 * Int.tmod x.fDelay 8) (by omega) (by omega)
    have w5 := wi64_id (n := Int.tmod x.fLose 12) (by omega) (by omega)
    simp only [w1, w2, w3, w4, w5]
    refine Ok.chk (by simp; omega) (Ok.call (ok23w x.fIp) fun a ha => ?_)
    refine Ok.bind (R := fun ip => (ip.size : Int) = 4 ∧ Go.Proofs.YtdiagiflihpidaaDoor.hd ip = some (if Int.tmod x.fNat ((ns.length : Int) + 1) - 1 < 0 then 198 else 10)) (Ok.br (fun h => Ok.call (ok24w x.fIp) fun b hb => Ok.done ⟨hb.1.1.1, by rw [if_pos (of_decide_eq_true h)]; exact hb.2⟩) fun h => Ok.done ⟨ha.1.1.1, by rw [if_neg (of_decide_eq_false h)]; exact ha.2⟩) fun ip hip => ?_
    refine Ok.bind (R := fun l => (0 ≤ l ∧ l ≤ 100) ∧ (l = 0 ∨ l = Int.tmod x.fLose 12)) (Ok.br (fun h => Ok.done ⟨by omega, .inl rfl⟩) fun h => Ok.done ⟨by omega, .inr rfl⟩) fun l hl => ?_
    refine Ok.view (ok66 _ _ _ (by show y1.length ≤ 1000000; omega)) fun i hi => Ok.br (fun h => Ok.app (by simp; omega) (Ok.gh (Ok.gh (Ok.done ⟨wi64_nat (n := 6) (by omega) (by omega), by simp; omega, fun z hz => ?_, ?_⟩)))) fun h => Ok.done ⟨wi64_nat (n := 6) (by omega) (by omega), by show y1.length ≤ k + 1; omega, i2, i3⟩
    ·rcases List.mem_append.1 hz with hz | hz
     ·exact i2 z hz
     ·obtain rfl := List.mem_singleton.1 hz
      refine ⟨⟨hip.1, ⟨by simp only; omega, by simp only; omega⟩, ⟨by simp only; omega, by simp only; omega⟩, hl.1, ⟨Int.le_refl _, by simp⟩⟩, by simp only; omega, rfl, hip.2, ?_⟩
      rcases hl.2 with h | h
      ·exact .inl h
      ·exact .inr ⟨x, List.mem_of_getElem? hx', h⟩
    ·rw [List.map_append, List.map_cons, List.map_nil, nodup_app]
     refine ⟨i3, fun hm => ?_⟩
     obtain ⟨z, hz, e⟩ := List.mem_map.1 hm
     have hneg : i < 0 := by simpa using h
     have : 0 ≤ i := hi.nonneg.2 ⟨z, hz, (congrArg Prod.fst e : z.fNat = _), (congrArg Prod.snd e : z.fIp = _)⟩
     omega
   ·obtain ⟨y1, y2⟩ := y
    obtain ⟨rfl, i1, i2, i3⟩ := hI
    refine Ok.cnd (R := fun c => c = false) (Ok.br (fun h => Ok.done ?_) fun h => Ok.done rfl) fun c hc => Ok.brF hc (Ok.done ⟨i2, i3, by have i1 : y1.length ≤ _ := i1; show y1.length ≤ 6; omega⟩)
    simp only [mlen_eq, decide_eq_true_eq] at h
    simp only [decide_eq_false_iff_not]; omega
  ·obtain ⟨h1, h2, h3⟩ := hhs
   refine Ok.br (fun h => Ok.call (ok24w 0) fun a ha => Ok.gh (Ok.gh (Ok.done ?_))) fun h => Ok.gh (Ok.gh (Ok.done ?_))
   ·refine empty_of (by simp) (by simp) hn (fun z hz => ?_) (by simp) hnl
    obtain rfl := List.mem_singleton.1 hz
    exact ⟨⟨ha.1.1.1, ⟨by simp, by simp only; omega⟩, ⟨by simp, by simp⟩, ⟨by simp, by simp⟩, ⟨by simp, by simp⟩⟩, by simp, rfl, by simpa using ha.2, .inl rfl⟩
   ·exact empty_of (fun e => by rw [e] at h; simp at h) h3 hn h1 h2 hnl
end Go.Proofs.YtdiagiflihpidaaDoor
namespace Go.Proofs.YtdiagiflihpidaaDoor
open Go Go.EV
set_option maxRecDepth 100000
def StepV (n m : SNetwork) : Prop := NV m ∧ m.fHosts = n.fHosts ∧ (∀ f, f ∈ m.fQueue → f ∈ n.fQueue) ∧ ∃ f, f ∈ n.fQueue ∧ m.fNow = later n.fNow f.fDue
end Go.Proofs.YtdiagiflihpidaaDoor
namespace Go.Proofs.YtdiagiflihpidaaDoor
open Go Go.EV
set_option maxRecDepth 100000
noncomputable def g37  : TT (Bool) :=
 .call 1001 s50 [] [] fun r735 =>
 .call 1002 (s49 198 51 100 1 80) [] [] fun r736 =>
 .call 1003 (s40 r735 0 1 5000 r736 (bs [120])) [] [] fun r737 =>
 .call 2002 (s47 r737.1) [] [] fun r738 =>
 .call 3002 (s48 r737.1) [] [] fun r739 =>
 .call 4002 (s41 r737.1 30) [] [] fun r740 =>
 .call 5001 (s49 192 0 2 9 5000) [] [] fun r741 =>
 .call 5002 (s49 198 51 100 1 80) [] [] fun r742 =>
 .cnd 6 [0]
 (.br 6004 (r737.2 == 0)
  (.br 6008 (r738.2 == 0)
   (.br 6012 (r738.1 == 20)
    (.br 6016 (r739.2.2 == 0)
     (.br 6021 ((r739.2.1.fHost == 0) && ((decide (r739.2.1.fFrom.fHost = r741.fHost)) && ((r739.2.1.fFrom.fPort == r741.fPort) && ((decide (r739.2.1.fTo.fHost = r742.fHost)) && ((r739.2.1.fTo.fPort == r742.fPort) && ((decide (r739.2.1.fData = (bs [120]))) && true))))))
      (.br 6026 (r739.1.fNow == 20)
       (.br 6030 (r740.2.2 == 0)
        (.br 6035 (r740.1.fNow == 30)
         (.view 6038 (s45 r740.2.1 [(SDelivery.mk 0 r741 r742 (bs [120]))]) [] fun r743 =>
          .br 6041 r743
          (.call 6042 (s43 r737.1) [] [] fun r744 =>
           .br 6046 (r744 == 0)
           (.call 6047 (s43 (SNetwork.mk [] [] [] 0 0)) [] [] fun r745 =>
            .done (r745 == 140))
           (.done false))
          (.done false))
         (.done false))
        (.done false))
       (.done false))
      (.done false))
     (.done false))
    (.done false))
   (.done false))
  (.done false))
 (fun (c746 : Bool) => [.bool c746]) fun c746 =>
 .done c746
theorem k37  : FnD Tryd.prog GG [0, 1, 2, 3, 4, 5, 6, 7, 8, 9, 10, 11] Tryd.f37 [] (g37) (fun r => .bool r) := by unfold FnD; kernel_rfl
noncomputable def s37  : EV.Spec Tryd.prog GG (Bool) := .ofFn 37 mixed Tryd.func37 (k37)
end Go.Proofs.YtdiagiflihpidaaDoor
namespace Go.Proofs.YtdiagiflihpidaaDoor
open Go Go.EV
set_option maxRecDepth 100000
noncomputable def g65 (p0 : (List SPlace1)) : TT Unit := .app 3003 tySPlace1 [] p0 4 true (by intros; rfl) (.done ())
theorem k65y : Piece Tryd.prog GG [2] 8 (cloneYes Tryd.f65.body) (Ext.lit .normal [(2, .nilsl)] []) (.done () : TT Unit) (fun _ => Ext.lit .ret [(2, .nilsl)] []) := by unfold Piece; kernel_rfl
theorem k65r (p0 : (List SPlace1)) : Piece Tryd.prog GG [0, 2, 5, 6, 7] 8 (cloneRest Tryd.f65.body) (Ext.lit .normal [(0, .sl false 4 (List.map tySPlace1.c p0)), (2, .nilsl)] []) (g65 p0) (fun _ => Ext.of .ret [(2, .ref 7 0 ([] ++ p0).length)] [] [BT.of 7 tySPlace1 4 ([] ++ p0)] (by rfl)) := by unfold Piece; kernel_rfl
theorem k65 (p0 : (List SPlace1)) {r : Unit} (h : (g65 p0).run = some r) : CallC Tryd.prog GG 65 [.sl false 4 (List.map tySPlace1.c p0)] (ofL []) (.ref 7 0 p0.length) (ofL [(7, ⟨4, true, List.map tySPlace1.c p0⟩)]) :=
 clone_ok (ty := tySPlace1) (ops0 := cloneOps0 Tryd.f65.body) (ops1 := cloneOps1 Tryd.f65.body) (yes := cloneYes Tryd.f65.body) (rest := cloneRest Tryd.f65.body) (t := 69) mixed (by decide) Tryd.func65 (by kernel_rfl) (by kernel_rfl) (by kernel_rfl) (by kernel_rfl) (by kernel_rfl) (by kernel_rfl) (by kernel_rfl) (by kernel_rfl) (by kernel_rfl) k65y (k65r p0) (by rfl) h
noncomputable def s65 (p0 : (List SPlace1)) : EV.Spec Tryd.prog GG Unit := ⟨65, [.sl false 4 (List.map tySPlace1.c p0)], [], (g65 p0).run, fun _ => .ref 7 0 p0.length, fun _ => [(7, ⟨4, true, List.map tySPlace1.c p0⟩)], [7], fun _ p hp _ => by
 rw [List.mem_singleton.1 hp]; exact tySPlace1.data _, fun _ h => k65 p0 h⟩
noncomputable def g38 (p0 : SDraft1) : TT (SDraft1) :=
 .call 2003 (s65 p0.fHosts) [] [(7, 500146)] fun r760 =>
 .bind 1
 (.lp (fun (l763 : (List SPlace1) × Int) => Ext.of .normal [(1, .ptr 1 0 0), (2, .ptr 2 0 0), (11, .int .i64 (p0.fHosts.length : Int)), (12, .int .i64 l763.2)] [(1, ⟨3, true, [[.nilsl, .ref 500146 0 l763.1.length, .sl false 5 (List.map tySSending.c p0.fSent)]]⟩), (2, ⟨3, true, [[.nilsl, .nilsl, .nilsl]]⟩)] [BT.of 500146 tySPlace1 4 l763.1 true] (by rfl))
  (fun l763 =>
   .br 0 (decide (l763.2 < (p0.fHosts.length : Int)))
   (.chk 6004 (decide (0 ≤ l763.2) && decide (l763.2 < (l763.1.length : Int))) (.row 6006 tySPlace1 l763.1 (0 + l763.2.toNat) true fun x764 =>
    .re 6006 (ReW.put 500146 4 tySPlace1 l763.1 (0 + l763.2.toNat) (SPlace1.mk x764.fNat x764.fIp x764.fDelay 0)) (.gh 9 (.len 500146 ((l763.1.set (0 + l763.2.toNat) (SPlace1.mk x764.fNat x764.fIp x764.fDelay 0)).length) [l763.1.length] (by simp)) (.done (.inl ((l763.1.set (0 + l763.2.toNat) (SPlace1.mk x764.fNat x764.fIp x764.fDelay 0)), (wi64 (l763.2 + 1))))))))
   (.done (.inr l763.1)))
  (p0.fHosts, 0))
 (fun (e765 : (List SPlace1)) => Ext.of (.exit 0) [(1, .ptr 1 0 0), (2, .ptr 2 0 0)] [(1, ⟨3, true, [[.nilsl, .ref 500146 0 e765.length, .sl false 5 (List.map tySSending.c p0.fSent)]]⟩), (2, ⟨3, true, [[.nilsl, .nilsl, .nilsl]]⟩)] [BT.of 500146 tySPlace1 4 e765 true] (by rfl))
 (fun e765 =>
  .gh 0 (.share (VwW.of 500146 tySPlace1 e765) 1) (.done (SDraft1.mk [] e765 [])))
theorem k38 (p0 : SDraft1) : FnD Tryd.prog GG [0, 1, 2, 3, 11, 12, 13] Tryd.f38 [.agg [.sl false 6 (List.map tySDraft.c p0.fNats), .sl false 4 (List.map tySPlace1.c p0.fHosts), .sl false 5 (List.map tySSending.c p0.fSent)]] (g38 p0) (fun r => .agg [.sl false 6 (List.map tySDraft.c r.fNats), .sl false 4 (List.map tySPlace1.c r.fHosts), .sl false 5 (List.map tySSending.c r.fSent)]) := by unfold FnD; kernel_rfl
noncomputable def s38 (p0 : SDraft1) : EV.Spec Tryd.prog GG (SDraft1) := .ofFn 38 mixed Tryd.func38 (k38 p0)
end Go.Proofs.YtdiagiflihpidaaDoor
namespace Go.Proofs.YtdiagiflihpidaaDoor
open Go Go.EV
set_option maxRecDepth 100000
theorem run37 : (g37).run = some true := by kernel_rfl
theorem t37 : SOk s37 (fun r => r = true) := ⟨true, run37, rfl⟩
end Go.Proofs.YtdiagiflihpidaaDoor
namespace Go.Proofs.YtdiagiflihpidaaDoor
open Go Go.EV
set_option maxRecDepth 100000
end Go.Proofs.YtdiagiflihpidaaDoor
namespace Go.Proofs.YtdiagiflihpidaaDoor
open Go Go.EV
set_option maxRecDepth 100000
structure SSent where
 fto : Int
 ffrom : SAddr
 fdata : ByteArray
structure SEnt92 where
 fk : ByteArray
 fv : Int
def tySSent : Ty SSent := ⟨fun x => [.int .i64 x.fto, .str x.ffrom.fHost, .int .i64 x.ffrom.fPort, .str x.fdata], fun x => [.int .i64 x.fto, .str x.ffrom.fHost, .int .i64 x.ffrom.fPort, .str x.fdata], fun _ => rfl, fun _ => rfl, fun _ _ => rfl, fun _ => rfl⟩
def tySEnt92 : Ty SEnt92 := ⟨fun x => [.str x.fk, .int .u8 x.fv], fun x => [.str x.fk, .int .u8 x.fv], fun _ => rfl, fun _ => rfl, fun _ _ => rfl, fun _ => rfl⟩
noncomputable def g11 (p0 : SDraft1) (p1 : (List SSending)) : TT (Bool) :=
 .call 1001 s37 [] [] fun r930 =>
 .br 0 (!r930)
 (.done false)
 (.call 3002 (s38 p0) [] [] fun r931 =>
  .call 3003 (s39 r931) [] [] fun r932 =>
  .chk 5005 (decide (0 ≤ (if (30 : Int) < (mlen tySSending p1) then (30 : Int) else (mlen tySSending p1))) && decide ((if (30 : Int) < (mlen tySSending p1) then (30 : Int) else (mlen tySSending p1)) ≤ ((mlenn tySSending p1) : Int))) (.re 5005 (ReW.cutHi 33 5 tySSending p1 ((if (30 : Int) < (mlen tySSending p1) then (30 : Int) else (mlen tySSending p1)).toNat)) (.gh 1 (.virt 600154 6 4) (.bind2 0
  (.lp (fun (l939 : (List SHost1) × (List SNat) × (List SFlight) × Int × Int × (List SSent) × Int) => Ext.of .normal [(4, .bool false), (5, .ptr 5 0 0), (6, .ref 600154 0 l939.2.2.2.2.2.1.length), (33, .sl false 5 (List.map tySSending.c (p1.take ((if (30 : Int) < (mlen tySSending p1) then (30 : Int) else (mlen tySSending p1)).toNat)))), (34, .int .i64 (mlen tySSending (p1.take ((if (30 : Int) < (mlen tySSending p1) then (30 : Int) else (mlen tySSending p1)).toNat)))), (35, .int .i64 l939.2.2.2.2.2.2)] [(5, ⟨5, true, [[.sl false 5 (List.map tySHost1.c l939.1), .sl false 9 (List.map tySNat.c l939.2.1), .sl false 9 (List.map tySFlight.c l939.2.2.1), .int .i64 l939.2.2.2.1, .int .i64 l939.2.2.2.2.1]]⟩)] [BT.of 600154 tySSent 4 l939.2.2.2.2.2.1 true] (by rfl))
   (fun l939 =>
    .br 0 (decide (l939.2.2.2.2.2.2 < (mlen tySSending (p1.take ((if (30 : Int) < (mlen tySSending p1) then (30 : Int) else (mlen tySSending p1)).toNat)))))
    (.row 7002 tySSending (p1.take ((if (30 : Int) < (mlen tySSending p1) then (30 : Int) else (mlen tySSending p1)).toNat)) l939.2.2.2.2.2.2.toNat (decide (0 ≤ l939.2.2.2.2.2.2)) fun x940 =>
     .chk 8007 (!((mlen tySHost1 l939.1) == 0)) (.chk 8014 (!((mlen tySHost1 l939.1) == 0)) (.row 10014 tySHost1 l939.1 ((Int.tmod (wi64 x940.fTo) (mlen tySHost1 l939.1)).toNat) (decide (0 ≤ (Int.tmod (wi64 x940.fTo) (mlen tySHost1 l939.1)))) fun x941 =>
     .call 10019 (s40 (SNetwork.mk l939.1 l939.2.1 l939.2.2.1 l939.2.2.2.1 l939.2.2.2.2.1) (wi64 (l939.2.2.2.1 + (wi64 (Int.tmod x940.fAfter 100)))) (Int.tmod (wi64 x940.fHost) (mlen tySHost1 l939.1)) (wi64 ((5000 : Int) + (wi64 x940.fPort))) (SAddr.mk x941.fIp 80) (strOfNums [(wu8 l939.2.2.2.2.2.2)])) [] [] fun r942 =>
     .cnd 11 [94]
     (.br 11004 (r942.2 != 0)
      (.done true)
      (.done ((mlen tySHost1 r942.1.fHosts) != (mlen tySHost1 l939.1))))
     (fun (c943 : Bool) => [.bool c943]) fun c943 =>
     .br 0 c943
     (.done (.inr (.inl (l939.2.2.2.2.2.1, l939.1, l939.2.1, l939.2.2.1, l939.2.2.2.1, l939.2.2.2.2.1))))
     (.row 13006 tySHost1 l939.1 ((Int.tmod (wi64 x940.fHost) (mlen tySHost1 l939.1)).toNat) (decide (0 ≤ (Int.tmod (wi64 x940.fHost) (mlen tySHost1 l939.1)))) fun x944 =>
      .app 13014 tySSent l939.2.2.2.2.2.1 [(SSent.mk (Int.tmod (wi64 x940.fTo) (mlen tySHost1 l939.1)) (SAddr.mk x944.fIp (wi64 ((5000 : Int) + (wi64 x940.fPort)))) (strOfNums [(wu8 l939.2.2.2.2.2.2)]))] 48 false (by intro h; cases h) (.gh 0 (.drop [600154]) (.gh 0 (.ren 108 600154) (.done (.inl (r942.1.fHosts, r942.1.fNats, r942.1.fQueue, r942.1.fNow, r942.1.fSerial, (l939.2.2.2.2.2.1 ++ [(SSent.mk (Int.tmod (wi64 x940.fTo) (mlen tySHost1 l939.1)) (SAddr.mk x944.fIp (wi64 ((5000 : Int) + (wi64 x940.fPort)))) (strOfNums [(wu8 l939.2.2.2.2.2.2)]))]), (wi64 (l939.2.2.2.2.2.2 + 1)))))))))))
    (.done (.inr (.inr (l939.2.2.2.2.2.1, l939.1, l939.2.1, l939.2.2.1, l939.2.2.2.1, l939.2.2.2.2.1)))))
   (r932.fHosts, r932.fNats, r932.fQueue, r932.fNow, r932.fSerial, [], 0))
  (fun (e945 : (List SSent) × (List SHost1) × (List SNat) × (List SFlight) × Int × Int) => Ext.of .ret [(4, .bool false), (5, .ptr 5 0 0), (6, .ref 600154 0 e945.1.length)] [(5, ⟨5, true, [[.sl false 5 (List.map tySHost1.c e945.2.1), .sl false 9 (List.map tySNat.c e945.2.2.1), .sl false 9 (List.map tySFlight.c e945.2.2.2.1), .int .i64 e945.2.2.2.2.1, .int .i64 e945.2.2.2.2.2]]⟩)] [BT.of 600154 tySSent 4 e945.1 true] (by rfl))
  (fun (e946 : (List SSent) × (List SHost1) × (List SNat) × (List SFlight) × Int × Int) => Ext.of (.exit 0) [(4, .bool false), (5, .ptr 5 0 0), (6, .ref 600154 0 e946.1.length)] [(5, ⟨5, true, [[.sl false 5 (List.map tySHost1.c e946.2.1), .sl false 9 (List.map tySNat.c e946.2.2.1), .sl false 9 (List.map tySFlight.c e946.2.2.2.1), .int .i64 e946.2.2.2.2.1, .int .i64 e946.2.2.2.2.2]]⟩)] [BT.of 600154 tySSent 4 e946.1 true] (by rfl))
  (fun e945 =>
   .done false)
  (fun e946 =>
   .call 16002 (s41 (SNetwork.mk e946.2.1 e946.2.2.1 e946.2.2.2.1 e946.2.2.2.2.1 e946.2.2.2.2.2) 1099511627776) [] [] fun r947 =>
   .cnd 17 [125]
   (.br 17004 (r947.2.2 != 0)
    (.done true)
    (.done ((mlen tySDelivery r947.2.1) != (e946.1.length : Int))))
   (fun (c948 : Bool) => [.bool c948]) fun c948 =>
   .br 0 c948
   (.done false)
   (.opr 19001 (Rule.makeMap 92 126 1048833 (by decide)) fun _ =>
    .bind2 1
    (.lp (fun (l954 : (List SEnt92) × Int) => Ext.of .normal [(4, .bool false), (6, .ref 600154 0 e946.1.length), (18, .mp 126), (127, .sl false 6 (List.map tySDelivery.c r947.2.1)), (128, .int .i64 (mlen tySDelivery r947.2.1)), (129, .int .i64 l954.2)] [] [BT.of 126 tySEnt92 1048833 l954.1 true, BT.of 600154 tySSent 4 e946.1 true] (by rfl))
     (fun l954 =>
      .br 0 (decide (l954.2 < (mlen tySDelivery r947.2.1)))
      (.row 22001 tySDelivery r947.2.1 l954.2.toNat (decide (0 ≤ l954.2)) fun x955 =>
       .cnd 23 [145]
       (.br 23006 ((x955.fData.size : Int) != 1)
        (.done true)
        (.chk 23008 (decide (0 ≤ (0 : Int) ∧ (0 : Int) < (x955.fData.size : Int))) (.done (decide ((e946.1.length : Int) ≤ (wi64 (bAt x955.fData 0)))))))
       (fun (c956 : Bool) => [.bool c956]) fun c956 =>
       .br 0 c956
       (.done (.inr (.inl ())))
       (.chk 25004 (decide (0 ≤ (0 : Int) ∧ (0 : Int) < (x955.fData.size : Int))) (.chk 25005 (decide (0 ≤ (bAt x955.fData 0)) && decide ((bAt x955.fData 0) < (e946.1.length : Int))) (.row 25006 tySSent e946.1 (0 + (bAt x955.fData 0).toNat) true fun x957 =>
        .opr 26005 (Rule.look2 (mt := 92) (kt := 9) (et := 5) (z := 1048833) (ty := tySEnt92) (p := (fun x => (decide (x955.fFrom.fHost = x.fk)))) (kc := [.str x955.fFrom.fHost]) (.tmp 153) (.tmp 156) 157 126 true l954.1 (.int .u8 0) (.int .u8 (mlook l954.1 (fun x => (decide (x955.fFrom.fHost = x.fk))) (fun x => x.fv) 0)) ⟨by kernel_rfl, by kernel_rfl, by kernel_rfl, fun _ => by kernel_rfl⟩ (by kernel_rfl) (mlook_map _ _ (fun x : SEnt92 => x.fv) 0 (V.int .u8))) fun _ =>
        .cnd 27 [187]
        (.br 27007 (x955.fHost != x957.fto)
         (.done true)
         (.br 27014 (!((decide (x955.fFrom.fHost = x957.ffrom.fHost)) && ((x955.fFrom.fPort == x957.ffrom.fPort) && true)))
          (.done true)
          (.br 27020 (x955.fTo.fPort != 80)
           (.done true)
           (.br 27022 ((l954.1.findIdx? (fun x => (decide (x955.fFrom.fHost = x.fk)))).isSome)
            (.chk 27025 (decide (0 ≤ (0 : Int) ∧ (0 : Int) < (x955.fData.size : Int))) (.done (decide ((bAt x955.fData 0) ≤ (mlook l954.1 (fun x => (decide (x955.fFrom.fHost = x.fk))) (fun x => x.fv) 0)))))
            (.done false)))))
        (fun (c958 : Bool) => [.bool c958]) fun c958 =>
        .br 0 c958
        (.done (.inr (.inl ())))
        (.chk 29007 (decide (0 ≤ (0 : Int) ∧ (0 : Int) < (x955.fData.size : Int))) (.opr 29008 (Rule.put (mt := 92) (kt := 9) (et := 5) (z := 1048833) (ty := tySEnt92) (p := (fun x => (decide (x955.fFrom.fHost = x.fk)))) (kc := [.str x955.fFrom.fHost]) (.tmp 188) (.tmp 191) (.tmp 194) 126 l954.1 (SEnt92.mk x955.fFrom.fHost (bAt x955.fData 0)) [.int .u8 (bAt x955.fData 0)] ⟨by kernel_rfl, by kernel_rfl, by kernel_rfl, fun _ => by kernel_rfl⟩ (by rfl) (by kernel_rfl) (by kernel_rfl) (by decide) (by decide)) fun _ =>
         .done (.inl ((mput l954.1 (fun x => (decide (x955.fFrom.fHost = x.fk))) (SEnt92.mk x955.fFrom.fHost (bAt x955.fData 0))), (wi64 (l954.2 + 1))))))))))
      (.done (.inr (.inr ()))))
     ([], 0))
    (fun (e959 : Unit) => Ext.lit .ret [(4, .bool false)] [])
    (fun (e960 : Unit) => Ext.lit (.exit 2) [(4, .bool false)] [])
    (fun e959 =>
     .done false)
    (fun e960 =>
     .done true)))))))
theorem k11 (p0 : SDraft1) (p1 : (List SSending)) : FnD Tryd.prog GG [0, 1, 2, 4, 5, 6, 7, 8, 9, 10, 11, 12, 13, 14, 16, 17, 18, 20, 21, 22, 23, 25, 33, 34, 35, 36, 94, 125, 127, 128, 129, 130, 145, 187] Tryd.f11 [.agg [.sl false 6 (List.map tySDraft.c p0.fNats), .sl false 4 (List.map tySPlace1.c p0.fHosts), .sl false 5 (List.map tySSending.c p0.fSent)], .sl false 5 (List.map tySSending.c p1)] (g11 p0 p1) (fun r => .bool r) := by unfold FnD; kernel_rfl
noncomputable def s11 (p0 : SDraft1) (p1 : (List SSending)) : EV.Spec Tryd.prog GG (Bool) := .ofFn 11 mixed Tryd.func11 (k11 p0 p1)
end Go.Proofs.YtdiagiflihpidaaDoor
namespace Go.Proofs.YtdiagiflihpidaaDoor
open Go Go.EV
set_option maxRecDepth 100000
end Go.Proofs.YtdiagiflihpidaaDoor
namespace Go.Proofs.YtdiagiflihpidaaDoor
open Go Go.EV
set_option maxRecDepth 100000
theorem find_uniq {hs : List SHost1} (hnd : (hs.map place).Nodup) {nat : Int} {ip : ByteArray} {a : Nat} {h : SHost1} (ha : hs[a]? = some h) (hh : Here nat ip h) {i : Int} (hf : Find hs (Here nat ip) i) : i = a := by
 have h0 := hf.nonneg.2 ⟨h, List.mem_of_getElem? ha, hh⟩
 obtain ⟨x, hx, hp, _, _⟩ := hf.at h0
 have hpl : place x = place h := by
  unfold place
  rw [hp.1, hp.2, hh.1, hh.2]
 rcases Nat.lt_trichotomy i.toNat a with h1 | h1 | h1
 ·exact absurd hpl (nodup_get hnd hx ha h1)
 ·omega
 ·exact absurd hpl.symm (nodup_get hnd ha hx h1)
def l0 (h : SHost1) : SHost1 := ⟨h.fIp, h.fNat, h.fDelay, 0, h.fCount⟩
end Go.Proofs.YtdiagiflihpidaaDoor
namespace Go.Proofs.YtdiagiflihpidaaDoor
open Go Go.EV
set_option maxRecDepth 100000
theorem Ok.scanB {P : Program} {G : Nat → Option (List V)} {σ ε : Type} {S : σ → Ext} {body : σ → T P G (σ ⊕ ε)} {x0 : σ} {R : ε → Prop} (n : Nat) (hn : n ≤ 140737488355328) (I : Nat → σ → Prop) (h0 : I 0 x0)
  (step : ∀ k y, I k y → k < n → Ok (body y) (Sum.elim (I (k + 1)) R)) (last : ∀ y, I n y → Ok (body y) (Sum.elim (fun _ => False) R)) : Ok (.lp S body x0) R := by
 have key : ∀ m k y, I k y → k ≤ n → n - k < m → ∃ e, iter (fun y => (body y).run) m y = some e ∧ R e := by
  intro m
  induction m with
  | zero => intro k y _ _ h; omega
  | succ m ih =>
   intro k y hy hk hm
   have e1 : iter (fun y => (body y).run) (m + 1) y = (match (body y).run with | none => none | some (.inl y) => iter (fun y => (body y).run) m y | some (.inr e) => some e) := rfl
   rw [e1]
   rcases Nat.lt_or_ge k n with h | h
   ·obtain ⟨r, hr, hq⟩ := step k y hy h
    rw [hr]
    cases r with
    | inl z => exact ih (k + 1) z hq (by omega) (by omega)
    | inr e => exact ⟨e, rfl, hq⟩
   ·have : k = n := by omega
    subst this
    obtain ⟨r, hr, hq⟩ := last y hy
    rw [hr]
    cases r with
    | inl z => exact hq.elim
    | inr e => exact ⟨e, rfl, hq⟩
 exact key FUEL 0 x0 h0 (Nat.zero_le _) (fuel (by omega))
theorem t38 {d : SDraft1} (hd : DraftW d) (hl : d.fHosts.length ≤ 35184372088832) : SOk (s38 d) (fun r => DraftW r ∧ r.fNats = [] ∧ ∀ p, p ∈ r.fHosts → p.fLose = 0) := by
 show Ok (g38 d) _
 unfold g38
 refine Ok.call (R := fun _ => True) ?_ fun r _ => ?_
 ·show Ok (g65 d.fHosts) _
  unfold g65
  exact Ok.app (by simp; omega) (Ok.done trivial)
 refine Ok.bind (R := fun e => ∀ p, p ∈ e → PlaceOk p ∧ p.fLose = 0) ?_ fun e he => Ok.gh (Ok.done ⟨⟨by simp, fun p hp => (he p hp).1, by simp⟩, rfl, fun p hp => (he p hp).2⟩)
 refine Ok.scanB d.fHosts.length (by omega) (fun k y => y.2 = (k : Int) ∧ y.1.length = d.fHosts.length ∧ (∀ p, p ∈ y.1 → PlaceOk p) ∧ ∀ j p, j < k → y.1[j]? = some p → p.fLose = 0) ⟨rfl, rfl, hd.2.1, by simp⟩ (fun k y hI hlt => ?_) fun y hI => ?_
 ·obtain ⟨y1, y2⟩ := y
  obtain ⟨rfl, i1, i2, i3⟩ := hI
  have i1 : y1.length = d.fHosts.length := i1
  have hk : k < y1.length := by omega
  obtain ⟨x, hx, hx'⟩ := get_lt hk
  have hw : wi64 ((k : Int) + 1) = ((k + 1 : Nat) : Int) := by rw [wi64_id (by omega) (by omega)]; omega
  obtain ⟨p1, p2, p3, p4⟩ := i2 x (List.mem_of_getElem? hx')
  refine Ok.brT (by simp; omega) (Ok.chk (by simp; omega) (Ok.row rfl (by simpa using hx') (Ok.re (Ok.gh (Ok.done ⟨hw, by simp [i1], fun p hp => ?_, fun j p hj hp => ?_⟩)))))
  ·rcases List.mem_or_eq_of_mem_set hp with hp | rfl
   ·exact i2 p hp
   ·exact ⟨p1, p2, p3, by show 0 ≤ (0 : Int) ∧ (0 : Int) ≤ 255; omega⟩
  ·have hp : (y1.set (0 + (k : Int).toNat) (SPlace1.mk x.fNat x.fIp x.fDelay 0))[j]? = some p := hp
   rw [Nat.zero_add, Int.toNat_natCast] at hp
   by_cases hjk : k = j
   ·subst hjk
    rw [List.getElem?_set_self hk] at hp
    obtain rfl := Option.some.inj hp
    rfl
   ·rw [List.getElem?_set_ne hjk] at hp
    exact i3 j p (by omega) hp
 ·obtain ⟨y1, y2⟩ := y
  obtain ⟨rfl, i1, i2, i3⟩ := hI
  have i1 : y1.length = d.fHosts.length := i1
  refine Ok.brF (by simp) (Ok.done fun p hp => ⟨i2 p hp, ?_⟩)
  obtain ⟨j, hj⟩ := List.mem_iff_getElem?.1 hp
  exact i3 j p (by have := (List.getElem?_eq_some_iff.1 hj).1; omega) hj
theorem send_open {n m : SNetwork} {now : Int} {host : Nat} {port : Int} {to : SAddr} {data : ByteArray} {h : SHost1} (hs : SendQ n now host port to data h m) (hq : n.fQueue.length < 64) (hl : h.fLose = 0) (hn : h.fNat < 0) (hd : now + h.fDelay ≤ 1099511627776) :
  m = ⟨n.fHosts.set host (bump h), n.fNats, n.fQueue ++ [⟨now + h.fDelay, n.fSerial, -1, -1, ⟨h.fIp, port⟩, to, data⟩], now, n.fSerial + 1⟩ := by
 rcases hs with ⟨⟨h1, _⟩, _⟩ | ⟨_, w, hw, h2⟩
 ·omega
 rcases hw with ⟨_, rfl⟩ | ⟨h3, _⟩ | ⟨h3, _⟩
 ·rcases h2 with ⟨h2, _⟩ | ⟨v, h2, ⟨h3, _⟩ | ⟨_, rfl⟩⟩
  ·simp at h2
  ·exact absurd ⟨hq, hd⟩ h3
  ·obtain rfl := Option.some.inj h2
   rfl
 ·omega
 ·omega
def num (d : ByteArray) : Int := bAt d 0
def Ahead (f g : SFlight) : Prop := num f.fData < num g.fData ∧ (f.fFrom.fHost = g.fFrom.fHost → f.fDue ≤ g.fDue)
def AheadD (d e : SDelivery) : Prop := d.fFrom.fHost = e.fFrom.fHost → num d.fData < num e.fData
def Goes (hs : List SHost1) (u : Int) (f : SFlight) : Prop := f.fWithin = -1 ∧ f.fDue ≤ u ∧ ∃ (a : Nat) (h : SHost1), hs[a]? = some h ∧ Here (-1) f.fTo.fHost h
def Came (hs : List SHost1) (f : SFlight) (d : SDelivery) : Prop :=
 d.fFrom = f.fFrom ∧ d.fTo = f.fTo ∧ d.fData = f.fData ∧ ∃ (a : Nat) (h : SHost1), d.fHost = (a : Int) ∧ hs[a]? = some h ∧ Here (-1) f.fTo.fHost h
theorem first_ahead {q : List SFlight} {k : Nat} {f g : SFlight} (hq : q.Pairwise Ahead) (hf : FirstQ q k) (hk : q[k]? = some f) (hg : g ∈ q.eraseIdx k) : f.fFrom.fHost = g.fFrom.fHost → num f.fData < num g.fData := by
 intro he
 obtain ⟨j, hjk, hj⟩ := List.mem_eraseIdx_iff_getElem?.1 hg
 obtain ⟨k', f', e1, e2, e3⟩ := hf
 obtain rfl : k = k' := by omega
 obtain rfl : f = f' := Option.some.inj (hk.symm.trans e2)
 obtain ⟨lk, rfl⟩ := List.getElem?_eq_some_iff.1 hk
 have hj0 := hj
 obtain ⟨lj, rfl⟩ := List.getElem?_eq_some_iff.1 hj
 rcases Nat.lt_trichotomy j k with h | h | h
 ·have h1 := List.pairwise_iff_getElem.1 hq j k lj lk h
  have h2 := (e3 j _ hj0).2 h
  have := h1.2 he.symm
  omega
 ·exact absurd h hjk
 ·exact (List.pairwise_iff_getElem.1 hq k j lk lj h).1
theorem runs_all {u : Int} {n o : SNetwork} {l : List SDelivery} (h : Runs u n l o) : n.fNats = [] → (n.fHosts.map place).Nodup → (∀ f, f ∈ n.fQueue → Goes n.fHosts u f) → n.fQueue.Pairwise Ahead →
  l.length = n.fQueue.length ∧ (∀ d, d ∈ l → ∃ f, f ∈ n.fQueue ∧ Came n.fHosts f d) ∧ l.Pairwise AheadD := by
 induction h with
 | stop h =>
  rename_i n
  intro _ _ hg _
  rcases h with h | ⟨k, f, _, h2, h3⟩
  ·rw [h]; simp
  ·have := (hg f (List.mem_of_getElem? h2)).2.1
   omega
 | step h1 h2 h3 h4 h5 ih =>
  rename_i n m o d l k f
  intro hn hnd hg hp
  obtain ⟨k', f', r, g1, g2, g3, g4⟩ := h4
  obtain rfl : k' = k := by have := g1.eq h1; omega
  obtain rfl : f' = f := Option.some.inj (g2.symm.trans h2)
  simp only [Prod.mk.injEq] at g4
  obtain ⟨rfl, rfl⟩ := g4
  obtain ⟨w1, w2, a, x, w3, w4⟩ := hg f' (List.mem_of_getElem? h2)
  have hr : r = (n.fNats, f'.fTo, (a : Int)) := by
   rcases g3 with ⟨h, _⟩ | ⟨_, i, e1, _, e3⟩ | ⟨_, ⟨i, e1, e2⟩, _⟩
   ·omega
   ·obtain rfl := find_uniq hnd w3 w4 e1
    exact e3
   ·obtain rfl := find_uniq hnd w3 w4 e1
    omega
  subst hr
  have hk : k' < n.fQueue.length := (List.getElem?_eq_some_iff.1 h2).1
  obtain ⟨i1, i2, i3⟩ := ih hn hnd (fun z hz => hg z (List.mem_of_mem_eraseIdx hz)) (hp.sublist (List.eraseIdx_sublist ..))
  have i1 : l.length = (n.fQueue.eraseIdx k').length := i1
  have i2 : ∀ d, d ∈ l → ∃ f, f ∈ n.fQueue.eraseIdx k' ∧ Came n.fHosts f d := i2
  rw [List.length_eraseIdx_of_lt hk] at i1
  rw [if_pos (by show (0 : Int) ≤ (a : Int); omega)]
  refine ⟨by simp; omega, fun e he => ?_, ?_⟩
  ·rcases List.mem_append.1 he with he | he
   ·rw [List.mem_singleton.1 he]
    exact ⟨f', List.mem_of_getElem? h2, rfl, rfl, rfl, a, x, rfl, w3, w4⟩
   ·obtain ⟨g, hg1, hg2⟩ := i2 e he
    exact ⟨g, List.mem_of_mem_eraseIdx hg1, hg2⟩
  ·show ([_] ++ l).Pairwise AheadD
   rw [List.singleton_append, List.pairwise_cons]
   refine ⟨fun e he => ?_, i3⟩
   obtain ⟨g, hg1, hg2⟩ := i2 e he
   intro hf
   have hf : f'.fFrom.fHost = e.fFrom.fHost := hf
   rw [hg2.1] at hf
   show num f'.fData < num e.fData
   rw [hg2.2.2.1]
   exact first_ahead hp h1 h2 hg1 hf
theorem num_at {k : Nat} (hk : k < 30) : (strOfNums [wu8 (k : Int)]).size = 1 ∧ num (strOfNums [wu8 (k : Int)]) = (k : Int) :=
 (of_decide_eq_true (by kernel_rfl : decide (∀ k : Fin 30, (strOfNums [wu8 (k.val : Int)]).size = 1 ∧ num (strOfNums [wu8 (k.val : Int)]) = (k.val : Int)) = true)) ⟨k, hk⟩
end Go.Proofs.YtdiagiflihpidaaDoor
