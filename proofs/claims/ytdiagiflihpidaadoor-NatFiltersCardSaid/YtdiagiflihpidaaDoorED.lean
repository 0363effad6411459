/- tannoylaw13.NatFilters answers true. Conditions: numbers of eight bits are such. -/
import Derived.Test.YtdiagiflihpidaaDoorEC
import Derived.Test.YtdiagiflihpidaaDoorD8
namespace Go.Proofs.YtdiagiflihpidaaDoor
open Go Go.EV
set_option maxRecDepth 100000

theorem keep_all {n : SNat} (hv : Valid n) : keep n.fNow n.fTable = n.fTable := by
  refine List.filter_eq_self.2 fun b hb => ?_
  simpa using ((allB_iff.1 hv.2).1 b hb).1.2.2.2.2.2.1

theorem at_self {n : SNat} (hv : Valid n) : atT n n.fNow = n := by
  unfold atT
  rw [keep_all hv]

theorem DN.small {d : SDraft} {n : SNat} (h : DN d 30 n) : SmallN n.fTable := h.2.2.2.small (by simp) (by simp)
theorem DN.size {d : SDraft} {n : SNat} (h : DN d 30 n) : (n.fHost.size : Int) = 4 := by rw [h.1.1]; rfl

theorem lets_some {n : SNat} {x : SBinding} {a : SAddr} (hf : 1 ≤ n.fFilter ∧ n.fFilter ≤ 3) (h : Lets n x a) (h1 : n.fFilter ≠ 1) : ∃ o, o ∈ x.fOpen ∧ o.fHost = a.fHost ∧ (n.fFilter = 2 ∨ o.fPort = a.fPort) := by
  rcases h with h | h
  · exact absurd h h1
  · unfold keyOf at h
    rw [if_neg h1] at h
    by_cases h2 : n.fFilter = 2
    · rw [if_pos h2] at h
      exact ⟨_, h, rfl, .inl h2⟩
    · rw [if_neg h2] at h
      exact ⟨_, h, rfl, .inr rfl⟩

theorem ok8 (d : SDraft) (x : SMove1) (peer port : Int) (hd : DraftOk d) (hp : 0 ≤ port) : SOk (s8 d x peer port) (fun r => r = true) := by
  show Ok (g8 d x peer port) _
  unfold g8
  refine Ok.call ok16 fun v hv => ?_
  subst hv
  refine Ok.br (fun h => by simp at h) (fun _ => ?_)
  refine Ok.call (ok29v d hd) fun n hn => ?_
  refine Ok.call (ok24v peer) fun from_ hfrom => ?_
  have hv := hn.2.1
  have hlow : n.fLow = 5000 := hn.1.2.1
  have t1 := tmod_in port (m := 8) (by omega)
  have t2 := Int.tmod_nonneg 8 hp
  have hw : wi64 (n.fLow + wi64 (Int.tmod port 8)) = n.fLow + Int.tmod port 8 := by
    rw [wi64_id (n := Int.tmod port 8) (by omega) (by omega), wi64_id (by omega) (by omega)]
  rw [hw]
  refine Ok.call (ok27 n n.fNow from_ ⟨n.fHost, n.fLow + Int.tmod port 8⟩ hn.small) fun r hr => ?_
  have htime : Time n n.fNow [from_, ⟨n.fHost, n.fLow + Int.tmod port 8⟩] := by
    refine ⟨Int.le_refl _, hv.1.2.2.2.2.2.2, fun a ha => ?_⟩
    rw [hn.size]
    simp only [List.mem_cons, List.not_mem_nil, or_false] at ha
    rcases ha with rfl | rfl
    · exact hfrom
    · exact ⟨⟨hn.size, .inl rfl⟩, by simp only; omega, by simp only; omega⟩
  rcases hr with ⟨h, _⟩ | ⟨_, h, _⟩ | ⟨_, _, h⟩
  · exact absurd hv h
  · exact absurd ⟨htime, rfl⟩ h
  rw [at_self hv, keep_all hv] at h
  rcases h with ⟨y, y1, y2, y3, rfl⟩ | ⟨_, rfl⟩
  · refine Ok.br (fun h => by simp at h) (fun _ => Ok.call (ok22 n hn.small) fun c hc => ?_)
    subst hc
    refine Ok.br (fun h => by simp at h) (fun _ => ?_)
    have hl1 := hn.small.1
    refine Ok.bind2 (R := fun e => match e with | .inl c => c = true | .inr _ => False) ?_ (fun c hc => Ok.done hc) (fun _ h => h.elim)
    refine Ok.lp (fun i => 0 ≤ i ∧ i ≤ (n.fTable.length : Int) ∧ ∀ j, j < i.toNat → ∀ b, n.fTable[j]? = some b → b.fPort ≠ n.fLow + Int.tmod port 8) (fun i => n.fTable.length - i.toNat) ⟨by simp, by simp, by simp⟩ (fuel (by simp; omega)) fun i hi => ?_
    obtain ⟨h0, h1, h2⟩ := hi
    refine Ok.br (fun hc => ?_) (fun hc => ?_)
    · rw [mlen_eq, decide_eq_true_eq] at hc
      obtain ⟨z, hz⟩ := at_of h0 hc
      refine Ok.row (by simpa using h0) hz (Ok.br (fun h3 => Ok.done ?_) (fun h3 => ?_))
      · rw [wi64_succ h0 hc hl1]
        refine ⟨⟨by omega, by omega, ?_⟩, by simp only; omega⟩
        rw [toNat_succ h0]
        refine upto_succ h2 fun b hb => ?_
        rw [hz] at hb; simp only [Option.some.injEq] at hb; subst hb
        simpa using h3
      · have hzp : z.fPort = n.fLow + Int.tmod port 8 := by simpa using h3
        have hzy : z = y := uniq_of hv.2 (List.mem_of_getElem? hz) y1 (by rw [hzp, y2])
        subst hzy
        have hzo : Small z.fOpen := hn.small.2 z y1
        refine Ok.bind (R := fun e => e = (n.fMapping, n.fFilter, n.fTimeout, n.fHairpin, n.fHost, n.fLow, n.fHigh, n.fNow, n.fTable, n.fLow + Int.tmod port 8, from_.fHost, from_.fPort, z.fInside.fHost, z.fInside.fPort, z.fInside.fHost, z.fInside.fPort, z.fPeer.fHost, z.fPeer.fPort, z.fPort, z.fUntil, z.fOpen, true, mlen tySBinding n.fTable)) ?_ fun e he => ?_
        · refine Ok.lp (fun t => (0 ≤ t.2 ∧ t.2 ≤ (z.fOpen.length : Int)) ∧ (n.fFilter = 1 → t.1 = true) ∧ ∀ j, j < t.2.toNat → ∀ o, z.fOpen[j]? = some o → o.fHost = from_.fHost → (n.fFilter = 2 ∨ o.fPort = from_.fPort) → t.1 = true) (fun t => z.fOpen.length - t.2.toNat) ⟨⟨by simp, by simp⟩, by simp, by simp⟩ (fuel (by simp; omega)) fun t ht => ?_
          obtain ⟨seen, k⟩ := t
          obtain ⟨⟨k0, k1⟩, k2, k3⟩ := ht
          simp only at k0 k1 k2 k3
          refine Ok.br (fun hc2 => ?_) (fun hc2 => Ok.done ?_)
          · rw [mlen_eq, decide_eq_true_eq] at hc2
            simp only at hc2
            obtain ⟨o, ho⟩ := at_of k0 hc2
            refine Ok.row (by simpa using k0) ho ?_
            refine Ok.cnd (R := fun c => (seen = true → c = true) ∧ (o.fHost = from_.fHost → (n.fFilter = 2 ∨ o.fPort = from_.fPort) → c = true)) ?_ fun c hcc => Ok.done ?_
            · refine Ok.br (fun h4 => Ok.done ⟨fun _ => rfl, fun _ _ => rfl⟩) (fun h4 => Ok.br (fun h5 => Ok.br (fun h6 => Ok.done ⟨fun _ => rfl, fun _ _ => rfl⟩) (fun h6 => Ok.done ⟨fun h => ?_, fun _ h => ?_⟩)) (fun h5 => Ok.done ⟨fun h => ?_, fun h => ?_⟩))
              · simp only at h4; rw [h4] at h; simp at h
              · simp at h6
                rcases h with h | h
                · exact absurd h h6
                · simpa using h
              · simp only at h4; rw [h4] at h; simp at h
              · simp at h5; exact absurd h h5
            · simp only
              rw [wi64_succ k0 hc2 hzo]
              refine ⟨⟨⟨by simp only; omega, by simp only; omega⟩, fun h => hcc.1 (k2 h), ?_⟩, by simp only; omega⟩
              simp only
              rw [toNat_succ k0]
              refine upto_succ (fun j hj o2 ho2 e1 e2 => hcc.1 (k3 j hj o2 ho2 e1 e2)) fun o2 ho2 => ?_
              rw [ho] at ho2; simp only [Option.some.injEq] at ho2; subst ho2
              exact hcc.2
          · rw [mlen_eq, decide_eq_false_iff_not] at hc2
            simp only at hc2
            have hs : seen = true := by
              by_cases hf : n.fFilter = 1
              · exact k2 hf
              · obtain ⟨o, o1, o2, o3⟩ := lets_some hv.1.2.1 y3 hf
                obtain ⟨j, hj⟩ := List.mem_iff_getElem?.1 o1
                exact k3 j (by have := (List.getElem?_eq_some_iff.1 hj).1; omega) o hj o2 o3
            subst hs
            rfl
        · subst he
          refine Ok.cnd (R := fun c => c = true) (Ok.br (fun _ => Ok.done (by simp)) (fun h => by simp at h)) fun c hc => Ok.done hc
    · rw [mlen_eq, decide_eq_false_iff_not] at hc
      obtain ⟨j, hj⟩ := List.mem_iff_getElem?.1 y1
      exact absurd y2 (h2 j (by have := (List.getElem?_eq_some_iff.1 hj).1; omega) y hj)
  · exact Ok.br (fun _ => Ok.done rfl) (fun h => by simp at h)

end Go.Proofs.YtdiagiflihpidaaDoor
