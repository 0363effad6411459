/- tannoylaw13.NatKeeps answers true. Conditions: numbers of eight and sixteen bits are such. -/
import Derived.Test.YtdiagiflihpidaaDoorEF
import Derived.Test.YtdiagiflihpidaaDoorD7
namespace Go.Proofs.YtdiagiflihpidaaDoor
open Go Go.EV
set_option maxRecDepth 100000

theorem valid_small {n : SNat} (hv : Valid n) : SmallN n.fTable ∧ n.fTable.length ≤ 64 := by
  have hp : Ports n := hv.1.2.2.2.2.1
  obtain ⟨h1, h2⟩ := allB_iff.1 hv.2
  have hnd2 : (n.fTable.map (·.fPort)).Nodup := List.pairwise_map.2 (List.Pairwise.imp (fun hna e => hna (.inl e.symm)) h2)
  have a2 := nodup_len hnd2 (m := (List.range (n.fHigh - n.fLow + 1).toNat).map (fun k : Nat => n.fLow + (k : Int))) fun p hpp => by
    obtain ⟨b, hb, rfl⟩ := List.mem_map.1 hpp
    have := (h1 b hb).1
    exact List.mem_map.2 ⟨(b.fPort - n.fLow).toNat, by rw [List.mem_range]; have := this.2.2.2; omega, by have := this.2.2.2; omega⟩
  simp only [List.length_map, List.length_range] at a2
  have := hp.2.2
  have hl : n.fTable.length ≤ 64 := by omega
  exact ⟨⟨by show n.fTable.length ≤ _; omega, fun b hb => by have := valid_open hv hb; show b.fOpen.length ≤ _; omega⟩, hl⟩

theorem base_found {n : SNat} {a b : SAddr} {t : List SBinding} {j : Nat} {x y : SBinding} (hn : Apart n.fTable) (hb : Base n a b t j x) (hy : y ∈ n.fTable) (h1 : y.fInside = a) (h2 : y.fPeer = keyOf n.fMapping b) : x = y := by
  rcases hb with ⟨_, hx, h3, h4⟩ | ⟨h0, _⟩
  · obtain ⟨i, hi⟩ := List.mem_iff_getElem?.1 hy
    have hij := apart_idx hn hx hi (.inr ⟨by rw [h3, h1], by rw [h4, h2]⟩)
    subst hij
    rw [hx] at hi
    exact Option.some.inj hi
  · exact absurd ⟨h1, h2⟩ (h0 y hy)

theorem base_old {n : SNat} {a b : SAddr} {t : List SBinding} {j : Nat} {x y : SBinding} (hb : Base n a b t j x) (hy : y ∈ n.fTable) : y ∈ t := by
  rcases hb with ⟨rfl, _⟩ | ⟨_, p, _, _, rfl, _⟩
  · exact hy
  · exact List.mem_append.2 (.inl hy)

/-- What has not expired stays, with its port. -/
theorem stay {n : SNat} {now : Int} {a b : SAddr} {t : List SBinding} {j : Nat} {x y : SBinding} (hv : Valid n) (ht : Time n now [a, b]) (hb : Base (atT n now) a b t j x) (hy : y ∈ keep now n.fTable) :
    ∃ z, z ∈ (outN n now b t j x).fTable ∧ sig z = sig y ∧ (z.fUntil = y.fUntil ∨ z.fUntil = now + n.fTimeout) := by
  obtain ⟨i, hi⟩ := List.mem_iff_getElem?.1 (base_old hb hy)
  have hx := hb.at
  by_cases hij : j = i
  · subst hij
    rw [hx] at hi
    simp only [Option.some.injEq] at hi
    subst hi
    obtain ⟨u1, u2, _⟩ := back hv ht hb
    exact ⟨_, List.mem_of_getElem? u1, rfl, .inr u2⟩
  · refine ⟨y, List.mem_iff_getElem?.2 ⟨i, ?_⟩, rfl, .inl rfl⟩
    show (t.set j _)[i]? = some y
    rw [List.getElem?_set, if_neg hij]
    exact hi

def insideA (k : Int) : SAddr := SAddr.mk (strOfNums [10, 0, 0, (wu8 ((1 : Int) + (Int.tmod k 3)))]) (wi64 ((5000 : Int) + (wi64 (Int.tmod (wu8 (Int.tdiv k 3)) 5))))
theorem ok23e (k : Int) : SOk (s23 k) (fun a => a = insideA k ∧ Usable a 4 ∧ a.fHost ≠ bs [192, 0, 2, 9]) := by
  obtain ⟨r, h1, h2⟩ := ok23v k
  refine ⟨r, h1, ?_, h2⟩
  have h3 : (s23 k).o = some (insideA k) := rfl
  rw [h3] at h1
  exact (Option.some.inj h1).symm

/-- The NAT on the way: it is valid, and keeps the binding. -/
def Way (host : ByteArray) (fr : SAddr) (p : Int) (k : Int) (m : SNat) : Prop :=
  Valid m ∧ m.fHost = host ∧ m.fTimeout = 4000 ∧ m.fMapping = 1 ∧ m.fNow ≤ 30000 + 50 * k ∧ ∃ y, y ∈ m.fTable ∧ y.fInside = fr ∧ y.fPeer = addr0 ∧ y.fPort = p ∧ y.fUntil = m.fNow + 4000

theorem ok7 (d : SDraft) (x : SMove1) (l : List Int) (hd : DraftOk d) (hl : ∀ k, k ∈ l → 0 ≤ k) : SOk (s7 d x l) (fun r => r = true) := by
  show Ok (g7 d x l) _
  unfold g7
  refine Ok.call ok16 fun v hv => ?_
  subst hv
  refine Ok.br (fun h => by simp at h) (fun _ => ?_)
  refine Ok.call (ok29v _ (⟨by simp, hd.2.1, hd.2.2.1, by simp⟩ : DraftOk ⟨0, d.fFilter, d.fPorts, 3999, d.fHairpin, d.fMoves⟩)) fun n hn => ?_
  refine Ok.call (ok23e _) fun fr hfr => Ok.call (ok24v _) fun to hto => ?_
  have hv := hn.2.1
  have hmap : n.fMapping = 1 := hn.1.2.2.2.1
  have htmo : n.fTimeout = 4000 := hn.1.2.2.2.2.2
  have hhost := hn.1.1
  have hsz := hn.size
  have hnow := hn.2.2.1
  have htime : Time n n.fNow [fr, to] := by
    refine ⟨Int.le_refl _, hv.1.2.2.2.2.2.2, fun a ha => ?_⟩
    rw [hsz]
    simp only [List.mem_cons, List.not_mem_nil, or_false] at ha
    rcases ha with rfl | rfl
    · exact hfr.2.1
    · exact hto
  have hne : fr.fHost ≠ n.fHost := by rw [hhost]; exact hfr.2.2
  refine Ok.call (ok25 n n.fNow fr to hn.small) fun r hr => ?_
  rcases hr with ⟨h, _⟩ | ⟨_, h, _⟩ | ⟨_, _, ⟨h, rfl⟩ | ⟨t, j, z, hb, rfl⟩⟩
  · exact absurd hv h
  · exact absurd ⟨htime, hne⟩ h
  · exact Ok.br (fun _ => Ok.done rfl) (fun h => by simp at h)
  refine Ok.br (fun h => by simp at h) (fun _ => ?_)
  simp only [mlen_eq, mlenn_eq]
  have hm : 0 ≤ (if (20 : Int) < (l.length : Int) then (20 : Int) else (l.length : Int)) ∧ (if (20 : Int) < (l.length : Int) then (20 : Int) else (l.length : Int)) ≤ (l.length : Int) ∧ (if (20 : Int) < (l.length : Int) then (20 : Int) else (l.length : Int)) ≤ 20 := by
    split <;> omega
  generalize (if (20 : Int) < (l.length : Int) then (20 : Int) else (l.length : Int)) = q at hm
  have hlt : (l.take q.toNat).length ≤ 20 := by simp; omega
  have hl2 : ∀ k, k ∈ l.take q.toNat → 0 ≤ k := fun k hk => hl k (List.mem_of_mem_take hk)
  generalize l.take q.toNat = ks at hlt hl2
  have w0 : Way n.fHost fr z.fPort 0 (outN n n.fNow to t j z) := by
    obtain ⟨u1, u2, u3, _⟩ := back hv htime hb
    refine ⟨valid_out hv htime hne hb, rfl, htmo, hmap, by show n.fNow ≤ _; omega, _, List.mem_of_getElem? u1, u3, ?_, rfl, ?_⟩
    · have := (base_is hb).2
      show z.fPeer = _
      rw [this]
      show keyOf n.fMapping to = _
      rw [hmap]; rfl
    · rw [u2, htmo]; rfl
  refine Ok.chk (by simp; omega) (Ok.re ?_)
  refine Ok.bind2 (R := fun e => match e with | .inl _ => False | .inr e => Valid (toN e)) ?_ (fun _ h => h.elim) (fun e he => ?_)
  · refine Ok.lp (fun t => (0 ≤ t.2.2.2.2.2.2.2.2.2 ∧ t.2.2.2.2.2.2.2.2.2 ≤ (ks.length : Int)) ∧ Way n.fHost fr z.fPort t.2.2.2.2.2.2.2.2.2 (toNI t)) (fun t => 30 - t.2.2.2.2.2.2.2.2.2.toNat) ⟨⟨by simp, by simp⟩, w0⟩ (fuel (by simp)) fun t ht => ?_
    obtain ⟨⟨h0, h1⟩, hw⟩ := ht
    refine Ok.br (fun hc => ?_) (fun _ => Ok.done hw.1)
    rw [decide_eq_true_eq] at hc
    obtain ⟨k, hk⟩ := at_of h0 hc
    have hk0 := hl2 k (List.mem_of_getElem? hk)
    have k1 := tmod_in k (m := 50) (by omega)
    have k2 := Int.tmod_nonneg 50 hk0
    obtain ⟨m, i, hmi⟩ : ∃ m i, m = toNI t ∧ i = t.2.2.2.2.2.2.2.2.2 := ⟨_, _, rfl, rfl⟩
    have hnowm : t.2.2.2.2.2.2.2.1 = m.fNow := by rw [hmi.1]; rfl
    have hnat : (SNat.mk t.1 t.2.1 t.2.2.1 t.2.2.2.1 t.2.2.2.2.1 t.2.2.2.2.2.1 t.2.2.2.2.2.2.1 t.2.2.2.2.2.2.2.1 t.2.2.2.2.2.2.2.2.1) = m := by rw [hmi.1]; rfl
    rw [← hmi.1, ← hmi.2] at hw
    rw [← hmi.2] at hc h0 h1
    obtain ⟨hvm, hhm, htm, hpm, hnm, y, y1, y2, y3, y4, y5⟩ := hw
    have hn0 := hvm.1.2.2.2.2.2
    refine Ok.row (by rw [← hmi.2]; simpa using h0) hk ?_
    rw [hnat, hnowm, ← hmi.2, wi64_id (n := Int.tmod k 50) (by omega) (by omega), wi64_id (n := m.fNow + Int.tmod k 50) (by omega) (by omega)]
    generalize hnow1 : m.fNow + Int.tmod k 50 = now1
    refine Ok.call (ok24v _) fun pk hpk => ?_
    have htime1 : Time m now1 [fr, pk] := by
      refine ⟨by omega, by omega, fun a ha => ?_⟩
      rw [hhm, hsz]
      simp only [List.mem_cons, List.not_mem_nil, or_false] at ha
      rcases ha with rfl | rfl
      · exact hfr.2.1
      · exact hpk
    have hne1 : fr.fHost ≠ m.fHost := by rw [hhm]; exact hne
    have hsm := valid_small hvm
    have hykeep : y ∈ keep now1 m.fTable := List.mem_filter.2 ⟨y1, by simp; omega⟩
    refine Ok.call (ok25 m now1 fr pk hsm.1) fun r1 hr1 => ?_
    have hypeer : y.fPeer = keyOf (atT m now1).fMapping pk := by
      show y.fPeer = keyOf m.fMapping pk
      rw [hpm, y3]; rfl
    rcases hr1 with ⟨h, _⟩ | ⟨_, h, _⟩ | ⟨_, _, ⟨h, _⟩ | ⟨t1, j1, x1, hb1, rfl⟩⟩
    · exact absurd hvm h
    · exact absurd ⟨htime1, hne1⟩ h
    · exact absurd ⟨y2, hypeer⟩ (h.1 y hykeep)
    have hx1 : x1 = y := base_found (apart_keep (allB_iff.1 hvm.2).2 now1) hb1 hykeep y2 hypeer
    have hp1 : x1.fPort = z.fPort := by rw [hx1, y4]
    refine Ok.cnd (R := fun c => c = false) ?_ fun c hc2 => ?_
    · refine Ok.br (fun h => by simp at h) (fun _ => Ok.done ?_)
      simp only
      rw [hhm, hp1]
      simp
    refine Ok.br (fun h => by rw [hc2] at h; simp at h) (fun _ => ?_)
    have hv1 := valid_out hvm htime1 hne1 hb1
    obtain ⟨u1, u2, u3, _⟩ := back hvm htime1 hb1
    refine Ok.call (ok23e _) fun ik hik => Ok.call (ok24v _) fun to2 hto2 => ?_
    have hM1 : (⟨m.fMapping, m.fFilter, m.fTimeout, m.fHairpin, m.fHost, m.fLow, m.fHigh, now1, t1.set j1 (upd (atT m now1) pk x1)⟩ : SNat) = outN m now1 pk t1 j1 x1 := rfl
    simp only [hM1]
    generalize hgm : outN m now1 pk t1 j1 x1 = m1 at *
    have hm1now : m1.fNow = now1 := by rw [← hgm]; rfl
    have hm1host : m1.fHost = n.fHost := by rw [← hgm]; exact hhm
    have hm1map : m1.fMapping = 1 := by rw [← hgm]; exact hpm
    have hm1tmo : m1.fTimeout = 4000 := by rw [← hgm]; exact htm
    have hnn := hm1now.symm
    subst hnn
    generalize hgu : upd (atT m m1.fNow) pk x1 = u at *
    have hup : u.fPort = z.fPort := by rw [← hgu]; exact hp1
    have hupeer : u.fPeer = addr0 := by
      rw [← hgu]
      show x1.fPeer = _
      rw [hx1, y3]
    have huk : u ∈ keep m1.fNow m1.fTable := List.mem_filter.2 ⟨List.mem_of_getElem? u1, by simp; omega⟩
    have way1 : Way n.fHost fr z.fPort (i + 1) m1 := ⟨hv1, hm1host, hm1tmo, hm1map, by omega, u, List.mem_of_getElem? u1, u3, hupeer, hup, by omega⟩
    have htime2 : Time m1 m1.fNow [ik, to2] := by
      refine ⟨Int.le_refl _, by omega, fun a ha => ?_⟩
      rw [hm1host, hsz]
      simp only [List.mem_cons, List.not_mem_nil, or_false] at ha
      rcases ha with rfl | rfl
      · exact hik.2.1
      · exact hto2
    have hne2 : ik.fHost ≠ m1.fHost := by rw [hm1host, hhost]; exact hik.2.2
    refine Ok.call (ok25 m1 m1.fNow ik to2 (valid_small hv1).1) fun r2 hr2 => ?_
    rcases hr2 with ⟨h, _⟩ | ⟨_, h, _⟩ | ⟨_, _, ⟨h, rfl⟩ | ⟨t2, j2, x2, hb2, rfl⟩⟩
    · exact absurd hv1 h
    · exact absurd ⟨htime2, hne2⟩ h
    · refine Ok.cnd (R := fun c => c = false) (Ok.br (fun _ => Ok.br (fun h => by simp at h) (fun _ => Ok.br (fun h => by simp at h) (fun _ => Ok.done rfl))) (fun h => by simp at h)) fun c hc3 => ?_
      refine Ok.br (fun h => by rw [hc3] at h; simp at h) (fun _ => Ok.br (fun h => by simp at h) (fun _ => Ok.done ?_))
      rw [wi64_succ (n := 20) h0 (by omega) (by omega)]
      have e1 : toNI (m.fMapping, m.fFilter, m.fTimeout, m.fHairpin, m.fHost, m.fLow, m.fHigh, m1.fNow, t1.set j1 u, i + 1) = outN m m1.fNow pk t1 j1 x1 := by rw [← hgu]; rfl
      exact ⟨⟨⟨by simp only; omega, by simp only; omega⟩, by rw [e1, hgm]; exact way1⟩, by simp only; omega⟩
    · have hsame : x2.fPort = z.fPort ↔ ik = fr := by
        constructor
        · intro hp
          have hu2 := base_old hb2 huk
          obtain ⟨iu, hiu⟩ := List.mem_iff_getElem?.1 hu2
          have hij := apart_idx (base_apart hv1 hb2) hb2.at hiu (.inl (by rw [hp, hup]))
          have hx2 := hb2.at
          rw [hij, hiu] at hx2
          simp only [Option.some.injEq] at hx2
          rw [← (base_is hb2).1, ← hx2, u3]
        · intro hi2
          have : x2 = u := base_found (apart_keep (allB_iff.1 hv1.2).2 _) hb2 huk (by rw [u3, hi2]) (by
            show u.fPeer = keyOf m1.fMapping to2
            rw [hm1map, hupeer]; rfl)
          rw [this, hup]
      refine Ok.cnd (R := fun c => c = false) (Ok.br (fun h => by simp at h) (fun _ => Ok.br (fun _ => Ok.call (ok23e _) fun ik2 hik2 => Ok.done ?_) (fun h => by simp at h))) fun c hc3 => ?_
      · have hki : ik2 = ik := by rw [hik2.1, hik.1]
        subst hki
        simp only [hm1host]
        by_cases hii : ik2 = fr
        · have := hsame.2 hii
          rw [this, hii]; simp
        · have hn2 : ¬ x2.fPort = z.fPort := fun h => hii (hsame.1 h)
          have e2 : ((decide (ik2.fHost = fr.fHost)) && ((ik2.fPort == fr.fPort) && true)) = false := by
            cases he : ((decide (ik2.fHost = fr.fHost)) && ((ik2.fPort == fr.fPort) && true)) with
            | false => rfl
            | true => exact absurd (eA_iff.1 he) hii
          rw [e2]
          simp [hn2]
      refine Ok.br (fun h => by rw [hc3] at h; simp at h) (fun _ => Ok.br (fun _ => Ok.done ?_) (fun h => by simp at h))
      have hv2 := valid_out hv1 htime2 hne2 hb2
      obtain ⟨w, w1, w2, w3⟩ := stay hv1 htime2 hb2 huk
      simp only [sig, Prod.mk.injEq] at w2
      rw [wi64_succ (n := 20) h0 (by omega) (by omega)]
      refine ⟨⟨⟨by simp only; omega, by simp only; omega⟩, hv2, hm1host, hm1tmo, hm1map, ?_, w, w1, by rw [w2.2.1, u3], by rw [w2.2.2, hupeer], by rw [w2.1, hup], ?_⟩, by simp only; omega⟩
      · show m1.fNow ≤ _
        simp only
        omega
      · show w.fUntil = m1.fNow + 4000
        rcases w3 with h | h <;> omega
  · refine Ok.call (ok19 (toN e) (valid_small he).1) fun c hc => ?_
    rcases hc with ⟨h, _⟩ | ⟨_, rfl⟩
    · exact absurd he h
    · exact Ok.done rfl

end Go.Proofs.YtdiagiflihpidaaDoor
