/- The drafted NAT: it is valid, and of one kind. Conditions: numbers of eight and sixteen bits are such. -/
import Derived.Test.YtdiagiflihpidaaDoorEB
namespace Go.Proofs.YtdiagiflihpidaaDoor
open Go Go.EV
set_option maxRecDepth 100000

theorem SOk.and {P : Program} {G : Nat → Option (List V)} {ρ : Type} {s : EV.Spec P G ρ} {Q R : ρ → Prop} (h : SOk s Q) (k : SOk s R) : SOk s (fun r => Q r ∧ R r) := by
  obtain ⟨r, h1, h2⟩ := h
  obtain ⟨q, k1, k2⟩ := k
  rw [h1] at k1
  simp only [Option.some.injEq] at k1
  subst k1
  exact ⟨r, h1, h2, k2⟩

theorem out_ok {n : SNat} {now : Int} {a b : SAddr} {r : SNat × SAddr × Int} (h : OutQ n now a b r) (h0 : r.2.2 = 0) :
    Valid n ∧ Time n now [a, b] ∧ a.fHost ≠ n.fHost ∧ ∃ t j x, Base (atT n now) a b t j x ∧ r = (outN n now b t j x, ⟨n.fHost, x.fPort⟩, 0) := by
  rcases h with ⟨_, rfl⟩ | ⟨_, _, rfl⟩ | ⟨h1, h2, ⟨_, rfl⟩ | ⟨t, j, x, h3, rfl⟩⟩
  · simp at h0
  · simp at h0
  · simp at h0
  · exact ⟨h1, h2.1, h2.2, t, j, x, h3, rfl⟩

def DraftOk (d : SDraft) : Prop := 0 ≤ d.fMapping ∧ 0 ≤ d.fFilter ∧ 0 ≤ d.fPorts ∧ 0 ≤ d.fTimeout

/-- The kind of a drafted NAT. -/
def Kind (d : SDraft) (n : SNat) : Prop :=
  n.fHost = bs [192, 0, 2, 9] ∧ n.fLow = 5000 ∧ n.fHigh = 5000 + Int.tmod d.fPorts 8 ∧ n.fMapping = 1 + Int.tmod d.fMapping 3 ∧ n.fFilter = 1 + Int.tmod d.fFilter 3 ∧ n.fTimeout = 1 + Int.tmod d.fTimeout 4000

def DN (d : SDraft) (k : Int) (n : SNat) : Prop := Kind d n ∧ Valid n ∧ n.fNow ≤ 1000 * k ∧ Bd k.toNat k.toNat n.fTable

theorem tmod_in (x : Int) {m : Int} (hm : 0 < m) : -m < Int.tmod x m ∧ Int.tmod x m < m := by
  refine ⟨?_, Int.tmod_lt_of_pos _ hm⟩
  have := Int.tmod_lt_of_pos (-x) hm
  rw [Int.neg_tmod] at this
  omega

theorem bs_size (l : List UInt8) : (bs l).size = l.length := rfl

theorem valid_nil {n : SNat} (h : Head n) (ht : n.fTable = []) : Valid n := ⟨h, by rw [ht]; exact fun i b hi => by simp at hi⟩

theorem ok63v (d : SDraft) (hd : DraftOk d) : SOk (s63 d) (fun r => DN d 0 r) := by
  show Ok (g63 d) _
  unfold g63
  obtain ⟨d1, d2, d3, d4⟩ := hd
  have a1 := tmod_in d.fMapping (m := 3) (by omega)
  have a2 := tmod_in d.fFilter (m := 3) (by omega)
  have a3 := tmod_in d.fPorts (m := 8) (by omega)
  have a4 := tmod_in d.fTimeout (m := 4000) (by omega)
  have b1 := Int.tmod_nonneg 3 d1
  have b2 := Int.tmod_nonneg 3 d2
  have b3 := Int.tmod_nonneg 8 d3
  have b4 := Int.tmod_nonneg 4000 d4
  rw [wi64_id (n := Int.tmod d.fMapping 3) (by omega) (by omega), wi64_id (n := Int.tmod d.fFilter 3) (by omega) (by omega), wi64_id (n := Int.tmod d.fPorts 8) (by omega) (by omega), wi64_id (n := Int.tmod d.fTimeout 4000) (by omega) (by omega),
    wi64_id (n := 1 + Int.tmod d.fMapping 3) (by omega) (by omega), wi64_id (n := 1 + Int.tmod d.fFilter 3) (by omega) (by omega), wi64_id (n := 5000 + Int.tmod d.fPorts 8) (by omega) (by omega), wi64_id (n := 1 + Int.tmod d.fTimeout 4000) (by omega) (by omega)]
  refine Ok.done ⟨⟨rfl, rfl, rfl, rfl, rfl, rfl⟩, valid_nil ⟨?_, ?_, ?_, ?_, ?_, ?_⟩ rfl, by simp, ⟨by simp, by simp⟩⟩
  · simp only; omega
  · simp only; omega
  · simp only; omega
  · exact .inl rfl
  · simp only; omega
  · simp

abbrev NatT := Int × Int × Int × Bool × ByteArray × Int × Int × Int × List SBinding
def toN (t : NatT) : SNat := ⟨t.1, t.2.1, t.2.2.1, t.2.2.2.1, t.2.2.2.2.1, t.2.2.2.2.2.1, t.2.2.2.2.2.2.1, t.2.2.2.2.2.2.2.1, t.2.2.2.2.2.2.2.2⟩
abbrev NatI := Int × Int × Int × Bool × ByteArray × Int × Int × Int × List SBinding × Int
def toNI (t : NatI) : SNat := ⟨t.1, t.2.1, t.2.2.1, t.2.2.2.1, t.2.2.2.2.1, t.2.2.2.2.2.1, t.2.2.2.2.2.2.1, t.2.2.2.2.2.2.2.1, t.2.2.2.2.2.2.2.2.1⟩

theorem DN.mono {d : SDraft} {k m : Int} {n : SNat} (h : DN d k n) (hm : k ≤ m) : DN d m n := ⟨h.1, h.2.1, by have := h.2.2.1; omega, h.2.2.2.mono (by omega) (by omega)⟩

theorem ok29v (d : SDraft) (hd : DraftOk d) : SOk (s29 d) (fun r => DN d 30 r) := by
  show Ok (g29 d) _
  unfold g29
  refine Ok.call (ok63v d hd) fun r hr => ?_
  refine Ok.bind (R := fun t => DN d 30 (toN t)) ?_ fun t ht => Ok.done ht
  refine Ok.lp (fun t => 0 ≤ t.2.2.2.2.2.2.2.2.2 ∧ t.2.2.2.2.2.2.2.2.2 ≤ 30 ∧ DN d t.2.2.2.2.2.2.2.2.2 (toNI t)) (fun t => 30 - t.2.2.2.2.2.2.2.2.2.toNat) ⟨by simp, by simp, hr⟩ (fuel (by simp)) fun t ht => ?_
  obtain ⟨h0, h1, h2⟩ := ht
  refine Ok.cnd (R := fun c => (c = true ↔ t.2.2.2.2.2.2.2.2.2 < (d.fMoves.length : Int) ∧ t.2.2.2.2.2.2.2.2.2 < 30)) ?_ fun c hc => ?_
  · refine Ok.br (fun h3 => Ok.done ?_) (fun h3 => Ok.done ?_)
    · rw [mlen_eq, decide_eq_true_eq] at h3
      simp [h3]
    · rw [mlen_eq, decide_eq_false_iff_not] at h3
      simp [h3]
  · refine Ok.br (fun h3 => ?_) (fun h3 => Ok.done (h2.mono h1))
    obtain ⟨h4, h5⟩ := hc.1 h3
    obtain ⟨x, hx⟩ := at_of h0 h4
    obtain ⟨hkd, hv, hnow, hbd⟩ := h2
    have hsm : SmallN (toNI t).fTable := hbd.small (by omega) (by omega)
    have ha := tmod_in x.fAfter (m := 1000) (by omega)
    have hn0 := hv.1.2.2.2.2.2
    have hw1 : wi64 (Int.tmod x.fAfter 1000) = Int.tmod x.fAfter 1000 := wi64_id (by omega) (by omega)
    have hw : wi64 (t.2.2.2.2.2.2.2.1 + Int.tmod x.fAfter 1000) = t.2.2.2.2.2.2.2.1 + Int.tmod x.fAfter 1000 := by
      have e : (toNI t).fNow = t.2.2.2.2.2.2.2.1 := rfl
      rw [e] at hn0 hnow
      exact wi64_id (by omega) (by omega)
    refine Ok.row (by simpa using h0) hx ?_
    rw [hw1, hw]
    refine (Ok.call (ok23 _) fun a1 _ => Ok.call (ok24 _) fun a2 _ => Ok.call (SOk.and (ok26 (toNI t) _ a1 a2 hsm) (ok26t (toNI t) _ a1 a2 hbd (by omega) (by omega))) fun y hy => ?_)
    refine Ok.br (fun h6 => Ok.done ?_) (fun h6 => Ok.done ?_)
    · simp only [Rnd]
      rw [wi64_succ (n := 30) h0 (by omega) (by omega)]
      refine ⟨⟨by omega, by omega, ?_⟩, by omega⟩
      have h7 : y.2.2 = 0 := by simpa using h6
      obtain ⟨k1, k2, k3, tt, j, z, k4, rfl⟩ := out_ok hy.1 h7
      have hv2 := valid_out k1 k2 k3 k4
      refine ⟨hkd, hv2, ?_, ?_⟩
      · show t.2.2.2.2.2.2.2.1 + Int.tmod x.fAfter 1000 ≤ _
        have e : (toNI t).fNow = t.2.2.2.2.2.2.2.1 := rfl
        rw [e] at hnow
        omega
      · rw [toNat_succ h0]; exact hy.2 rfl
    · simp only [Rnd]
      rw [wi64_succ (n := 30) h0 (by omega) (by omega)]
      exact ⟨⟨by omega, by omega, DN.mono ⟨hkd, hv, hnow, hbd⟩ (by omega)⟩, by omega⟩

-- addresses inside and outside

theorem tdiv_in (k : Int) : 0 ≤ wu8 (Int.tdiv k 3) ∧ wu8 (Int.tdiv k 3) ≤ 255 := by
  unfold wu8
  simp [IntKind.wrap, IntKind.bits, IntKind.signed]
  omega

def Four (l : List Int) : Prop := l.length = 4

theorem ok23v (k : Int) : SOk (s23 k) (fun a => Usable a 4 ∧ a.fHost ≠ bs [192, 0, 2, 9]) := by
  show Ok (g23 k) _
  unfold g23
  have h1 := tdiv_in k
  have h2 := tmod_in (wu8 (Int.tdiv k 3)) (m := 5) (by omega)
  have h3 := Int.tmod_nonneg 5 h1.1
  rw [wi64_id (n := Int.tmod (wu8 (Int.tdiv k 3)) 5) (by omega) (by omega), wi64_id (n := 5000 + Int.tmod (wu8 (Int.tdiv k 3)) 5) (by omega) (by omega)]
  refine Ok.done ⟨⟨⟨by simp [strOfNums_size], .inl rfl⟩, by simp only; omega, by simp only; omega⟩, ?_⟩
  intro h
  have := congrArg (fun s : ByteArray => s.data.toList.head?) h
  simp [strOfNums, bs] at this

theorem ok24v (k : Int) : SOk (s24 k) (fun a => Usable a 4) := by
  show Ok (g24 k) _
  unfold g24
  have h1 := tdiv_in k
  have h2 := tmod_in (wu8 (Int.tdiv k 3)) (m := 3) (by omega)
  have h3 := Int.tmod_nonneg 3 h1.1
  rw [wi64_id (n := Int.tmod (wu8 (Int.tdiv k 3)) 3) (by omega) (by omega), wi64_id (n := 80 + Int.tmod (wu8 (Int.tdiv k 3)) 3) (by omega) (by omega)]
  exact Ok.done ⟨⟨by simp [strOfNums_size], .inl rfl⟩, by simp only; omega, by simp only; omega⟩

end Go.Proofs.YtdiagiflihpidaaDoor
