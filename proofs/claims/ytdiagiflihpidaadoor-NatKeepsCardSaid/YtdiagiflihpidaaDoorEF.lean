/- tannoylaw13.NatReplies answers true. Conditions: numbers of eight and sixteen bits are such. -/
import Derived.Test.YtdiagiflihpidaaDoorED
import Derived.Test.YtdiagiflihpidaaDoorD6
namespace Go.Proofs.YtdiagiflihpidaaDoor
open Go Go.EV
set_option maxRecDepth 100000

-- counting

theorem nodup_len : ∀ {l m : List Int}, l.Nodup → (∀ a, a ∈ l → a ∈ m) → l.length ≤ m.length
  | [], _, _, _ => Nat.zero_le _
  | a :: l, m, h, hs => by
    have h' := List.nodup_cons.1 h
    have ha : a ∈ m := hs a (by simp)
    have hl := nodup_len (m := m.erase a) h'.2 fun x hx => (List.mem_erase_of_ne (fun e => h'.1 (by rw [e] at hx; exact hx))).2 (hs x (by simp [hx]))
    have hp : 0 < m.length := List.length_pos_of_mem ha
    rw [List.length_erase_of_mem ha] at hl
    simp only [List.length_cons]
    omega

theorem port_some {n : SNat} (h : Ports n) (own : Int) {p : Int} (h0 : n.fLow ≤ p) (h1 : p ≤ n.fHigh) : ∃ k, 0 ≤ k ∧ k ≤ n.fHigh - n.fLow ∧ portAt n own k = p := by
  have := first_in h own
  by_cases hp : first n own ≤ p
  · exact ⟨p - first n own, by omega, by omega, by unfold portAt; split <;> omega⟩
  · exact ⟨p - first n own + (n.fHigh - n.fLow + 1), by omega, by omega, by unfold portAt; split <;> omega⟩

theorem full_len {n : SNat} (hv : Valid n) {own : Int} (h : FreeQ n own none) : (n.fTable.length : Int) = n.fHigh - n.fLow + 1 := by
  have hp : Ports n := hv.1.2.2.2.2.1
  obtain ⟨h1, h2⟩ := allB_iff.1 hv.2
  have hall : ∀ p, n.fLow ≤ p → p ≤ n.fHigh → Taken n.fTable p := fun p p0 p1 => by
    obtain ⟨k, k0, k1, rfl⟩ := port_some hp own p0 p1
    rcases h with ⟨_, _, _, h, _⟩ | ⟨_, h⟩
    · simp at h
    · exact h k k0 k1
  have hmem : ∀ p, p ∈ (List.range (n.fHigh - n.fLow + 1).toNat).map (fun k : Nat => n.fLow + (k : Int)) ↔ n.fLow ≤ p ∧ p ≤ n.fHigh := fun p => by
    rw [List.mem_map]
    constructor
    · rintro ⟨k, hk, rfl⟩
      rw [List.mem_range] at hk
      omega
    · intro hpp
      exact ⟨(p - n.fLow).toNat, by rw [List.mem_range]; omega, by omega⟩
  have hnd : ((List.range (n.fHigh - n.fLow + 1).toNat).map (fun k : Nat => n.fLow + (k : Int))).Nodup := by
    refine List.pairwise_map.2 (List.nodup_range.imp fun hne e => hne ?_)
    omega
  have hnd2 : (n.fTable.map (·.fPort)).Nodup := by
    refine List.pairwise_map.2 (List.Pairwise.imp (fun hna e => hna (.inl e.symm)) h2)
  have a1 := nodup_len hnd (m := n.fTable.map (·.fPort)) fun p hpp => by
    obtain ⟨p0, p1⟩ := (hmem p).1 hpp
    obtain ⟨b, hb, hbp⟩ := hall p p0 p1
    exact List.mem_map.2 ⟨b, hb, hbp⟩
  have a2 := nodup_len hnd2 (m := (List.range (n.fHigh - n.fLow + 1).toNat).map (fun k : Nat => n.fLow + (k : Int))) fun p hpp => by
    obtain ⟨b, hb, rfl⟩ := List.mem_map.1 hpp
    have := (h1 b hb).1
    exact (hmem _).2 ⟨this.2.2.2.1, this.2.2.2.2.1⟩
  simp only [List.length_map, List.length_range] at a1 a2
  have := hp.2.2.1
  omega

theorem ok30 (n : SNat) (hl : SmallN n.fTable) : SOk (s30 n) (fun r => r = n) := by
  have hl1 := hl.1
  show Ok (g30 n) _
  unfold g30
  refine Ok.gh (Ok.bind (R := fun e => e = n.fTable) ?_ fun e hk => Ok.gh (Ok.done (by rw [hk])))
  refine Ok.lp (fun t => ∃ i : Int, t = (n.fTable.take i.toNat, i) ∧ 0 ≤ i ∧ i ≤ (n.fTable.length : Int)) (fun t => n.fTable.length - t.2.toNat) ⟨0, by simp, by simp, by simp⟩ (fuel (by simp; omega)) fun t hi => ?_
  obtain ⟨i, rfl, h0, h1⟩ := hi
  refine Ok.br (fun hc => ?_) (fun hc => Ok.done ?_)
  · rw [mlen_eq, decide_eq_true_eq] at hc
    simp only at hc
    obtain ⟨y, hy⟩ := at_of h0 hc
    refine Ok.row (by simpa using h0) hy (Ok.call (ok64 _ (hl.2 y (List.mem_of_getElem? hy))) fun _ _ => ?_)
    refine Ok.appn (by simp; omega) (Ok.gh (Ok.gh (Ok.done ?_)))
    simp only
    rw [wi64_succ h0 hc hl1]
    refine ⟨⟨i + 1, ?_, by omega, by omega⟩, by simp only; omega⟩
    rw [toNat_succ h0, List.take_add_one, hy]; rfl
  · rw [mlen_eq, decide_eq_false_iff_not] at hc
    simp only at hc
    show n.fTable.take i.toNat = _
    rw [take_all (by omega)]

/-- What comes back to where a binding let something out. -/
theorem back {n : SNat} {now : Int} {a b : SAddr} {t : List SBinding} {j : Nat} {x : SBinding} (hv : Valid n) (ht : Time n now [a, b]) (hb : Base (atT n now) a b t j x) :
    (outN n now b t j x).fTable[j]? = some (upd (atT n now) b x) ∧ (upd (atT n now) b x).fUntil = now + n.fTimeout ∧ (upd (atT n now) b x).fInside = a ∧ Lets (outN n now b t j x) (upd (atT n now) b x) b := by
  have hn := hv.1.2.2.2.2.2
  have htm := hv.1.2.2.1
  have h2 := ht.2.1
  have h1 := ht.1
  refine ⟨set_self (List.getElem?_eq_some_iff.1 hb.at).1 _, wi64_id (by simp only [atT]; omega) (by simp only [atT]; omega), (base_is hb).1, ?_⟩
  by_cases hf : n.fFilter = 1
  · exact .inl hf
  · exact .inr (mem_new (n := atT n now) x.fOpen hf)

theorem ok6 (d : SDraft) (x : SMove1) (later : Int) (hd : DraftOk d) (ha : 0 ≤ x.fAfter) (hlt : 0 ≤ later ∧ later ≤ 65535) : SOk (s6 d x later) (fun r => r = true) := by
  show Ok (g6 d x later) _
  unfold g6
  refine Ok.call ok16 fun v hv => ?_
  subst hv
  refine Ok.br (fun h => by simp at h) (fun _ => ?_)
  refine Ok.call (ok29v d hd) fun n hn => ?_
  refine Ok.call (ok30 n hn.small) fun n2 hn2 => ?_
  subst n2
  refine Ok.call (ok23v _) fun fr hfr => Ok.call (ok24v _) fun to hto => ?_
  have hv := hn.2.1
  have hk := hn.1
  have hnow := hn.2.2.1
  have hn0 := hv.1.2.2.2.2.2
  have htm := hv.1.2.2.1
  have hhost := hk.1
  have hsz := hn.size
  have t1 := tmod_in x.fAfter (m := 1000) (by omega)
  have t2 := Int.tmod_nonneg 1000 ha
  have p3 := tmod_in d.fPorts (m := 8) (by omega)
  have hlow := hk.2.1
  have hhigh := hk.2.2.1
  have hlh := hv.1.2.2.2.2.1
  rw [wi64_id (n := Int.tmod x.fAfter 1000) (by omega) (by omega), wi64_id (n := n.fNow + Int.tmod x.fAfter 1000) (by omega) (by omega)]
  generalize hw : n.fNow + Int.tmod x.fAfter 1000 = now
  have hnow1 : n.fNow ≤ now ∧ now ≤ 31000 := by omega
  have htime : Time n now [fr, to] := by
    refine ⟨hnow1.1, by omega, fun a ha => ?_⟩
    rw [hsz]
    simp only [List.mem_cons, List.not_mem_nil, or_false] at ha
    rcases ha with rfl | rfl
    · exact hfr.1
    · exact hto
  have hne : fr.fHost ≠ n.fHost := by rw [hhost]; exact hfr.2
  refine Ok.call (ok25 n now fr to hn.small) fun r hr => ?_
  refine Ok.cnd (R := fun c => c = (r.2.2 != 0 && r.2.2 != 4)) ?_ fun c hc => ?_
  · refine Ok.call (ok22 n hn.small) fun c hc => ?_
    subst hc
    refine Ok.br (fun h => by simp at h) (fun _ => Ok.br (fun h => Ok.done ?_) (fun h => Ok.done ?_))
    · rw [h]; simp
    · rw [h]; simp
  have hsm := out_small hn.small (Nat.le_trans hn.2.2.2.1 (by simp)) hr
  rcases hr with ⟨h, _⟩ | ⟨_, h, _⟩ | ⟨_, _, ⟨h, rfl⟩ | ⟨t, j, z, hb, rfl⟩⟩
  · exact absurd hv h
  · exact absurd ⟨htime, hne⟩ h
  · refine Ok.br (fun h => by rw [hc] at h; simp at h) (fun _ => Ok.br (fun _ => ?_) (fun h => by simp at h))
    refine Ok.call (ok20 n now hn.small) fun q hq => ?_
    rcases hq with ⟨h, _⟩ | ⟨_, h, _⟩ | ⟨_, _, rfl⟩
    · exact absurd hv h
    · exact absurd ⟨htime.1, htime.2.1, fun a ha => by simp at ha⟩ h
    · refine Ok.cnd (R := fun c => c = true) (Ok.br (fun _ => Ok.done ?_) (fun h => by simp at h)) fun c hc => Ok.done hc
      have hf := full_len (valid_at hv htime.1 htime.2.1) h.2
      rw [mlen_eq, wi64_id (n := n.fHigh - n.fLow) (by omega) (by omega), wi64_id (n := n.fHigh - n.fLow + 1) (by omega) (by omega)]
      have hf2 : ((atT n now).fTable.length : Int) = n.fHigh - n.fLow + 1 := hf
      simpa using hf2
  · refine Ok.br (fun h => by rw [hc] at h; simp at h) (fun _ => Ok.br (fun h => by simp at h) (fun _ => ?_))
    rw [wi64_id (n := later) (by omega) (by omega), wi64_id (n := n.fTimeout + 3) (by omega) (by omega)]
    have d1 := tmod_in later (m := n.fTimeout + 3) (by omega)
    have d2 := Int.tmod_nonneg (n.fTimeout + 3) hlt.1
    rw [wi64_id (n := now + Int.tmod later (n.fTimeout + 3)) (by omega) (by omega), wi64_id (n := now + n.fTimeout) (by omega) (by omega)]
    generalize hat : now + Int.tmod later (n.fTimeout + 3) = at_
    have hvm := valid_out hv htime hne hb
    have hup := upd_bind hv htime hne hb
    obtain ⟨u1, u2, u3, u4⟩ := back hv htime hb
    have hpl : n.fLow ≤ z.fPort ∧ z.fPort ≤ n.fHigh := ⟨hup.1.2.2.2.1, hup.1.2.2.2.2.1⟩
    refine Ok.chk (by simp; omega) (Ok.call (ok27 (outN n now to t j z) at_ to ⟨n.fHost, z.fPort⟩ hsm) fun q hq => ?_)
    refine Ok.cnd (R := fun c => c = false) ?_ fun c hc => ?_
    · refine Ok.call (ok19 (outN n now to t j z) hsm) fun e he => ?_
      rcases he with ⟨h, _⟩ | ⟨_, rfl⟩
      · exact absurd hvm h
      · refine Ok.br (fun h => by simp at h) (fun _ => Ok.br (fun h => by simp at h) (fun _ => Ok.br (fun h => by simp at h) (fun _ => Ok.br (fun h => ?_) (fun _ => Ok.done ?_))))
        · simp at h; omega
        · simp; omega
    refine Ok.br (fun h => by rw [hc] at h; simp at h) (fun _ => ?_)
    have htm2 : Time (outN n now to t j z) at_ [to, ⟨n.fHost, z.fPort⟩] := by
      refine ⟨?_, by omega, fun a ha => ?_⟩
      · show now ≤ at_; omega
      show Usable a (n.fHost.size : Int)
      rw [hsz]
      simp only [List.mem_cons, List.not_mem_nil, or_false] at ha
      rcases ha with rfl | rfl
      · exact hto
      · exact ⟨⟨hsz, .inl rfl⟩, by simp only; omega, by simp only; omega⟩
    rcases hq with ⟨h, _⟩ | ⟨_, h, _⟩ | ⟨_, _, ⟨y, y1, y2, _, rfl⟩ | ⟨h, rfl⟩⟩
    · exact absurd hvm h
    · exact absurd ⟨htm2, rfl⟩ h
    · have hyu : y = upd (atT n now) to z := uniq_of hvm.2 (keep_mem y1) (List.mem_of_getElem? u1) y2
      have hlive : at_ < y.fUntil := by simpa using (List.mem_filter.1 y1).2
      rw [hyu, u2] at hlive
      refine Ok.br (fun h => by simp at h; omega) (fun _ => ?_)
      refine Ok.cnd (R := fun c => c = true) (Ok.br (fun _ => Ok.br (fun _ => ?_) (fun h => ?_)) (fun h => by simp at h)) fun c hc => Ok.done hc
      · refine Ok.call (ok19 (atT (outN n now to t j z) at_) (smallN_keep hsm at_)) fun e he => ?_
        rcases he with ⟨h, _⟩ | ⟨_, rfl⟩
        · exact absurd (valid_at hvm htm2.1 htm2.2.1) h
        · exact Ok.br (fun _ => Ok.done (by simp [atT])) (fun h => by simp at h)
      · simp only at h
        rw [eA_iff.2 (by rw [hyu]; exact u3)] at h
        simp at h
    · refine Ok.br (fun _ => Ok.done rfl) (fun h2 => ?_)
      simp at h2
      exact absurd u4 (h _ (List.mem_filter.2 ⟨List.mem_of_getElem? u1, by rw [u2]; simpa using h2⟩) rfl)

end Go.Proofs.YtdiagiflihpidaaDoor
