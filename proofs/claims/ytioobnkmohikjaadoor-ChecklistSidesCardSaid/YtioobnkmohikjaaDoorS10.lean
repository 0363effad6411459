/- symMerge: two sorted neighbours become one sorted part. By induction on how deep it goes. Conditions: the places lie in the list; what is in the first part stood ahead of what is in the second. -/
import Derived.Test.YtioobnkmohikjaaDoorS9
import Derived.KernelRfl
namespace Go.Proofs.YtioobnkmohikjaaDoor
open Go Go.EV
set_option maxRecDepth 100000
theorem mid_eq (l h : Nat) (hn : l + h ≤ 4000000) : wi64 (bShr .u64 (wu64 (wi64 ((l : Int) + (h : Int)))) 1) = (((l + h) / 2 : Nat) : Int) := by
 have e0 : wi64 ((l : Int) + (h : Int)) = (l : Int) + (h : Int) := wi64_id (by omega) (by omega)
 have e : wu64 ((l : Int) + (h : Int)) = ((l + h : Nat) : Int) := by
  unfold wu64 IntKind.wrap
  simp [IntKind.signed, IntKind.bits]
  omega
 have e2 : bShr .u64 ((l + h : Nat) : Int) 1 = (((l + h) / 2 : Nat) : Int) := by
  unfold bShr
  have : (2 : Int) ^ (min (1 : Int).toNat (IntKind.bits .u64)) = 2 := by decide
  rw [this, Int.fdiv_eq_ediv_of_nonneg _ (by omega)]
  omega
 rw [e0, e, e2]
 exact wi64_id (by omega) (by omega)
def SymP (R : SymR) (N : Nat) : Prop := ∀ (A X Y B : List SPair) (p : Nat), p = (A ++ X ++ Y ++ B).length → p ≤ 1000000 → X.length + Y.length ≤ N → 0 < X.length → 0 < Y.length → X.Pairwise bef → Y.Pairwise bef → (∀ x, x ∈ X → ∀ y, y ∈ Y → ix x y) →
 SOk (symSh.spec R (p, (A.length : Int), ((A ++ X).length : Int), ((A ++ X ++ Y).length : Int), A ++ X ++ Y ++ B)) (fun r => ∃ M, r = A ++ M ++ B ∧ Sorts bef (X ++ Y) M)
theorem take_all {Y : List SPair} (hY : Y.Pairwise bef) {x : SPair} {k : Nat} {y : SPair} (hy : Y[k]? = some y) (h : bef y x) : ∀ z, z ∈ Y.take (k + 1) → bef z x := fun z hz => by
 obtain ⟨i, hi, hiz⟩ := mem_take_at hz
 rcases Nat.lt_or_ge i k with h1 | h1
 ·exact bef_trans _ _ _ (pairwise_le hY hiz hy h1) h
 ·have : i = k := by omega
  subst this
  rw [hy] at hiz; exact Option.some.inj hiz ▸ h
theorem drop_all {Y : List SPair} (hY : Y.Pairwise bef) {x : SPair} {k : Nat} {y : SPair} (hy : Y[k]? = some y) (h : bef x y) : ∀ z, z ∈ Y.drop k → bef x z := fun z hz => by
 obtain ⟨i, hi, hiz⟩ := mem_drop_at hz
 rcases Nat.lt_or_ge k i with h1 | h1
 ·exact bef_trans _ _ _ h (pairwise_le hY hy hiz h1)
 ·have : i = k := by omega
  subst this
  rw [hy] at hiz; exact Option.some.inj hiz ▸ h
theorem at_mid {A Y B : List SPair} {k : Nat} (hk : k < Y.length) : (A ++ Y ++ B)[A.length + k]? = some Y[k] := by
 rw [List.append_assoc, List.getElem?_append_right (by omega), Nat.add_sub_cancel_left, List.getElem?_append_left hk, List.getElem?_eq_getElem hk]
theorem put_sorts {Y : List SPair} (hY : Y.Pairwise bef) {x : SPair} {k : Nat} (h1 : ∀ z, z ∈ Y.take k → bef z x) (h2 : ∀ z, z ∈ Y.drop k → bef x z) : Sorts bef (x :: Y) (Y.take k ++ x :: Y.drop k) := by
 have e : Y.take k ++ Y.drop k = Y := List.take_append_drop _ _
 have := ins_sorts (P := Y) (P1 := Y.take k) (P2 := Y.drop k) (x := x) ⟨by rw [e], by rw [e]; exact hY⟩ h2 h1
 exact ⟨this.1.trans (List.perm_append_singleton x Y), this.2⟩
theorem okSYM1 (R : SymR) (A Y B : List SPair) (x : SPair) (p : Nat) (hp : p = (A ++ [x] ++ Y ++ B).length) (hp2 : p ≤ 1000000) (hY : Y.Pairwise bef) (hxy : ∀ y, y ∈ Y → ix x y) :
  SOk (s61 R p (A.length : Int) ((A ++ [x]).length : Int) ((A ++ [x] ++ Y).length : Int) (A ++ [x] ++ Y ++ B)) (fun r => ∃ M, r = A ++ M ++ B ∧ Sorts bef ([x] ++ Y) M) := by
 show Ok (g61 R p _ _ _ _) _
 unfold g61
 have hlen : A.length + (1 + (Y.length + B.length)) = p := by rw [hp]; simp; omega
 have i0 : wi64 (((A ++ [x]).length : Int) - (A.length : Int)) = 1 := by rw [wi64_id (by simp; omega) (by simp; omega)]; simp; omega
 rw [i0]
 have eL : A ++ [x] ++ Y ++ B = A ++ x :: (Y ++ B) := by simp
 have hmm : (A ++ [x]).length = A.length + 1 := by simp
 have hbb : (A ++ [x] ++ Y).length = A.length + 1 + Y.length := by simp; omega
 rw [hmm, hbb]
 refine Ok.brT rfl (Ok.bind (R := fun e => ∃ k, k ≤ Y.length ∧ e = ((A.length + 1 + k : Nat) : Int) ∧ (∀ z, z ∈ Y.take k → bef z x) ∧ (∀ z, z ∈ Y.drop k → bef x z)) ?_ fun e he => ?_)
 ·refine Ok.lp (fun y => ∃ i j, i ≤ j ∧ j ≤ Y.length ∧ y.1 = ((A.length + 1 + i : Nat) : Int) ∧ y.2 = ((A.length + 1 + j : Nat) : Int) ∧ (∀ z, z ∈ Y.take i → bef z x) ∧ (∀ z, z ∈ Y.drop j → bef x z)) (fun y => (y.2 - y.1).toNat) ⟨0, Y.length, Nat.zero_le _, Nat.le_refl _, rfl, rfl, fun z h => by simp at h, fun z h => by simp at h⟩ (fuel (by dsimp only; omega)) (fun y hy => ?_)
  obtain ⟨i, j, q1, q2, q3, q4, q5, q6⟩ := hy
  obtain ⟨y1, y2⟩ := y
  simp only at q3 q4
  subst q3 q4
  refine Ok.br (fun h => ?_) (fun h => Ok.done ⟨i, by omega, rfl, q5, ?_⟩)
  ·simp only [decide_eq_true_eq] at h
   have hij : i < j := by omega
   have em : (A.length + 1 + i + (A.length + 1 + j)) / 2 = A.length + 1 + (i + j) / 2 := by omega
   have emid : wi64 (bShr .u64 (wu64 (wi64 (((A.length + 1 + i : Nat) : Int) + ((A.length + 1 + j : Nat) : Int)))) 1) = ((A.length + 1 + (i + j) / 2 : Nat) : Int) := by rw [mid_eq _ _ (by omega), em]
   have hk : (i + j) / 2 < Y.length := by omega
   simp only [emid, Int.toNat_natCast, Nat.zero_add]
   have g1 : (A ++ [x] ++ Y ++ B)[A.length + 1 + (i + j) / 2]? = some Y[(i + j) / 2] := by
    have := at_mid (A := A ++ [x]) (B := B) hk
    rw [hmm] at this; exact this
   refine Ok.chk (inP (by omega)) (Ok.row rfl g1 (Ok.chk (inP (by omega)) (Ok.row rfl (get_mid eL rfl) (Ok.call (okCMPP _ x) fun r hr => Ok.br (fun h2 => Ok.done ?_) (fun h2 => Ok.done ?_)))))
   ·simp only [decide_eq_true_eq] at h2
    refine ⟨⟨(i + j) / 2 + 1, j, by omega, q2, ?_, rfl, take_all hY (List.getElem?_eq_getElem hk) (bef_less (hr.1 h2)), q6⟩, ?_⟩
    ·dsimp only; rw [wi64_id (by omega) (by omega)]; omega
    ·show ((_ : Int) - wi64 _).toNat < ((_ : Int) - _).toNat
     rw [wi64_id (by omega) (by omega)]; dsimp only; omega
   ·simp only [decide_eq_false_iff_not] at h2
    refine ⟨⟨i, (i + j) / 2, by omega, by omega, rfl, rfl, q5, drop_all hY (List.getElem?_eq_getElem hk) (bef_not (fun h => h2 (hr.2 h)) (hxy _ (List.getElem_mem hk)))⟩, ?_⟩
    dsimp only; omega
  ·simp only [decide_eq_false_iff_not] at h
   have : i = j := by omega
   subst this; exact q6
 ·obtain ⟨kk, k1, rfl, k2, k3⟩ := he
  have ek : wi64 (((A.length + 1 + kk : Nat) : Int) - 1) = ((A.length + kk : Nat) : Int) := by rw [wi64_id (by omega) (by omega)]; omega
  rw [ek]
  refine Ok.bind (R := fun r => r = A ++ (Y.take kk ++ x :: Y.drop kk) ++ B) ?_ fun r hr => Ok.done ⟨_, hr, put_sorts hY k2 k3⟩
  refine Ok.scan kk (by omega) (fun c y => c ≤ kk ∧ y = (A ++ Y.take c ++ x :: (Y.drop c ++ B), ((A.length + c : Nat) : Int))) ⟨Nat.zero_le _, by simp⟩ (fun c y hy hc => ?_) (fun y hy => ?_)
  ·obtain ⟨hck, rfl⟩ := hy
   obtain ⟨v, hv1, hv2⟩ := get_lt (l := Y) (k := c) (by omega)
   have hd : Y.drop c = v :: Y.drop (c + 1) := by
    rw [List.drop_eq_getElem_cons (by omega)]
    rw [List.getElem?_eq_getElem (by omega)] at hv2
    rw [Option.some.inj hv2]
   have ht : Y.take (c + 1) = Y.take c ++ [v] := by rw [List.take_add_one, hv2]; rfl
   have htl : (Y.take c).length = c := by rw [List.length_take]; omega
   have i1 : wi64 (((A.length + c : Nat) : Int) + 1) = ((A.length + c + 1 : Nat) : Int) := by rw [wi64_id (by omega) (by omega)]; omega
   have w1 : A ++ Y.take c ++ x :: (Y.drop c ++ B) = (A ++ Y.take c ++ [x]) ++ v :: (Y.drop (c + 1) ++ B) := by rw [hd]; simp
   have w2 : (A ++ Y.take c ++ x :: (Y.drop c ++ B)).set (A.length + c) v = (A ++ Y.take c ++ [v]) ++ v :: (Y.drop (c + 1) ++ B) := by
    rw [set_mid (P := A ++ Y.take c) (x := x) rfl (by simp [htl]), hd]; simp
   refine Ok.br (fun _ => ?_) (fun h => by simp at h; omega)
   simp only [i1, Int.toNat_natCast, Nat.zero_add]
   refine Ok.chk (inP (by omega)) (Ok.row rfl (get_mid w1 (by simp [htl]; omega)) (Ok.chk (inP (by omega)) (Ok.row rfl (get_mid (P := A ++ Y.take c) (x := x) rfl (by simp [htl])) (Ok.chk (inP (by omega)) (Ok.row rfl (get_mid (P := A ++ Y.take c) (x := x) rfl (by simp [htl])) (Ok.re (Ok.chk (inP (by omega)) (Ok.row rfl (get_mid w2 (by simp [htl]; omega)) (Ok.re (Ok.done ⟨by omega, ?_⟩))))))))))
   rw [set_mid w2 (by simp [htl]; omega), ht]
   simp; omega
  ·obtain ⟨hck, rfl⟩ := hy
   exact Ok.br (fun h => by simp at h) (fun h => Ok.done (by simp))
theorem okSYM2 (R : SymR) (A X B : List SPair) (y : SPair) (p : Nat) (hp : p = (A ++ X ++ [y] ++ B).length) (hp2 : p ≤ 1000000) (hX : X.Pairwise bef) (hX1 : X.length ≠ 1) (hxy : ∀ x, x ∈ X → ix x y) :
  SOk (s61 R p (A.length : Int) ((A ++ X).length : Int) ((A ++ X ++ [y]).length : Int) (A ++ X ++ [y] ++ B)) (fun r => ∃ M, r = A ++ M ++ B ∧ Sorts bef (X ++ [y]) M) := by
 show Ok (g61 R p _ _ _ _) _
 unfold g61
 have hlen : A.length + (X.length + (1 + B.length)) = p := by rw [hp]; simp; omega
 have hmm : (A ++ X).length = A.length + X.length := by simp
 have hbb : (A ++ X ++ [y]).length = A.length + X.length + 1 := by simp; omega
 rw [hmm, hbb]
 have i0 : wi64 (((A.length + X.length : Nat) : Int) - (A.length : Int)) = (X.length : Int) := by rw [wi64_id (by omega) (by omega)]; omega
 have i1 : wi64 (((A.length + X.length + 1 : Nat) : Int) - ((A.length + X.length : Nat) : Int)) = 1 := by rw [wi64_id (by omega) (by omega)]; omega
 rw [i0, i1]
 have eL : A ++ X ++ [y] ++ B = (A ++ X) ++ y :: B := by simp
 refine Ok.brF (by simp; omega) (Ok.brT rfl (Ok.bind (R := fun e => ∃ k, k ≤ X.length ∧ e = ((A.length + k : Nat) : Int) ∧ (∀ z, z ∈ X.take k → bef z y) ∧ (∀ z, z ∈ X.drop k → bef y z)) ?_ fun e he => ?_))
 ·refine Ok.lp (fun q => ∃ i j, i ≤ j ∧ j ≤ X.length ∧ q.1 = ((A.length + i : Nat) : Int) ∧ q.2 = ((A.length + j : Nat) : Int) ∧ (∀ z, z ∈ X.take i → bef z y) ∧ (∀ z, z ∈ X.drop j → bef y z)) (fun q => (q.2 - q.1).toNat) ⟨0, X.length, Nat.zero_le _, Nat.le_refl _, rfl, rfl, fun z h => by simp at h, fun z h => by simp at h⟩ (fuel (by dsimp only; omega)) (fun q hq => ?_)
  obtain ⟨i, j, q1, q2, q3, q4, q5, q6⟩ := hq
  obtain ⟨y1, y2⟩ := q
  simp only at q3 q4
  subst q3 q4
  refine Ok.br (fun h => ?_) (fun h => Ok.done ⟨i, by omega, rfl, q5, ?_⟩)
  ·simp only [decide_eq_true_eq] at h
   have hij : i < j := by omega
   have em : (A.length + i + (A.length + j)) / 2 = A.length + (i + j) / 2 := by omega
   have emid : wi64 (bShr .u64 (wu64 (wi64 (((A.length + i : Nat) : Int) + ((A.length + j : Nat) : Int)))) 1) = ((A.length + (i + j) / 2 : Nat) : Int) := by rw [mid_eq _ _ (by omega), em]
   have hk : (i + j) / 2 < X.length := by omega
   simp only [emid, Int.toNat_natCast, Nat.zero_add]
   have g1 : (A ++ X ++ [y] ++ B)[A.length + (i + j) / 2]? = some X[(i + j) / 2] := by
    rw [List.append_assoc]; exact at_mid hk
   refine Ok.chk (inP (by omega)) (Ok.row rfl (get_mid eL hmm) (Ok.chk (inP (by omega)) (Ok.row rfl g1 (Ok.call (okCMPP y _) fun r hr => Ok.br (fun h2 => Ok.done ?_) (fun h2 => Ok.done ?_)))))
   ·simp only [Bool.not_eq_true', decide_eq_false_iff_not] at h2
    refine ⟨⟨(i + j) / 2 + 1, j, by omega, q2, ?_, rfl, take_all hX (List.getElem?_eq_getElem hk) (bef_not (fun h => h2 (hr.2 h)) (hxy _ (List.getElem_mem hk))), q6⟩, ?_⟩
    ·dsimp only; rw [wi64_id (by omega) (by omega)]; omega
    ·show ((_ : Int) - wi64 _).toNat < ((_ : Int) - _).toNat
     rw [wi64_id (by omega) (by omega)]; dsimp only; omega
   ·simp only [Bool.not_eq_false', decide_eq_true_eq] at h2
    refine ⟨⟨i, (i + j) / 2, by omega, by omega, rfl, rfl, q5, drop_all hX (List.getElem?_eq_getElem hk) (bef_less (hr.1 h2))⟩, ?_⟩
    dsimp only; omega
  ·simp only [decide_eq_false_iff_not] at h
   have : i = j := by omega
   subst this; exact q6
 ·obtain ⟨kk, k1, rfl, k2, k3⟩ := he
  refine Ok.bind (R := fun r => r = A ++ (X.take kk ++ y :: X.drop kk) ++ B) ?_ fun r hr => Ok.done ⟨_, hr, ?_⟩
  rotate_left
  ·have := put_sorts hX k2 k3
   exact ⟨this.1.trans (List.perm_append_singleton y X).symm, this.2⟩
  refine Ok.lp (fun q => ∃ c, kk ≤ c ∧ c ≤ X.length ∧ q = (A ++ X.take c ++ y :: (X.drop c ++ B), ((A.length + c : Nat) : Int))) (fun q => q.2.toNat) ⟨X.length, k1, Nat.le_refl _, by simp⟩ (fuel (by dsimp only; omega)) (fun q hq => ?_)
  obtain ⟨c, c1, c2, rfl⟩ := hq
  refine Ok.br (fun h => ?_) (fun h => Ok.done ?_)
  ·simp only [decide_eq_true_eq] at h
   obtain ⟨c, rfl⟩ : ∃ d, c = d + 1 := ⟨c - 1, by omega⟩
   obtain ⟨w, hw1, hw2⟩ := get_lt (l := X) (k := c) (by omega)
   have hd : X.drop c = w :: X.drop (c + 1) := by
    rw [List.drop_eq_getElem_cons (by omega)]
    rw [List.getElem?_eq_getElem (by omega)] at hw2
    rw [Option.some.inj hw2]
   have ht : X.take (c + 1) = X.take c ++ [w] := by rw [List.take_add_one, hw2]; rfl
   have htl : (X.take c).length = c := by rw [List.length_take]; omega
   have i2 : wi64 (((A.length + (c + 1) : Nat) : Int) - 1) = ((A.length + c : Nat) : Int) := by rw [wi64_id (by omega) (by omega)]; omega
   have w0 : A ++ X.take (c + 1) ++ y :: (X.drop (c + 1) ++ B) = (A ++ X.take c ++ [w]) ++ y :: (X.drop (c + 1) ++ B) := by rw [ht]; simp
   have w1 : A ++ X.take (c + 1) ++ y :: (X.drop (c + 1) ++ B) = (A ++ X.take c) ++ w :: (y :: (X.drop (c + 1) ++ B)) := by rw [ht]; simp
   have w2 : (A ++ X.take (c + 1) ++ y :: (X.drop (c + 1) ++ B)).set (A.length + (c + 1)) w = (A ++ X.take c) ++ w :: (w :: (X.drop (c + 1) ++ B)) := by
    rw [set_mid w0 (by simp [htl] <;> omega)]; simp
   simp only [i2, Int.toNat_natCast, Nat.zero_add]
   refine Ok.chk (inP (by omega)) (Ok.row rfl (get_mid w1 (by simp [htl])) (Ok.chk (inP (by omega)) (Ok.row rfl (get_mid w0 (by simp [htl] <;> omega)) (Ok.chk (inP (by omega)) (Ok.row rfl (get_mid w0 (by simp [htl] <;> omega)) (Ok.re (Ok.chk (inP (by omega)) (Ok.row rfl (get_mid w2 (by simp [htl])) (Ok.re (Ok.done ⟨⟨c, by omega, by omega, ?_⟩, ?_⟩))))))))))
   ·rw [set_mid w2 (by simp [htl]), hd]; simp
   ·dsimp only; omega
  ·simp only [decide_eq_false_iff_not] at h
   have : c = kk := by omega
   subst this
   show A ++ X.take c ++ y :: (X.drop c ++ B) = _
   simp
set_option maxHeartbeats 2000000 in
theorem okSYM3 (R : SymR) (N : Nat) (hR : SymP R N) (A X Y B : List SPair) (p : Nat) (hp : p = (A ++ X ++ Y ++ B).length) (hp2 : p ≤ 1000000) (hN : X.length + Y.length ≤ 2 * N) (hX : X.Pairwise bef) (hY : Y.Pairwise bef) (hX1 : 1 < X.length) (hY1 : 1 < Y.length) (hxy : ∀ x, x ∈ X → ∀ y, y ∈ Y → ix x y) :
  SOk (s61 R p (A.length : Int) ((A ++ X).length : Int) ((A ++ X ++ Y).length : Int) (A ++ X ++ Y ++ B)) (fun r => ∃ M, r = A ++ M ++ B ∧ Sorts bef (X ++ Y) M) := by
 show Ok (g61 R p _ _ _ _) _
 unfold g61
 have hlen : A.length + (X.length + (Y.length + B.length)) = p := by rw [hp]; simp
 have hmm : (A ++ X).length = A.length + X.length := by simp
 have hbb : (A ++ X ++ Y).length = A.length + X.length + Y.length := by simp; omega
 rw [hmm, hbb]
 obtain ⟨a, ha⟩ : ∃ a, A.length = a := ⟨_, rfl⟩
 obtain ⟨m, hm⟩ : ∃ m, A.length + X.length = m := ⟨_, rfl⟩
 obtain ⟨b, hb⟩ : ∃ b, A.length + X.length + Y.length = b := ⟨_, rfl⟩
 rw [hb, hm, ha]
 have i0 : wi64 ((m : Int) - (a : Int)) = (X.length : Int) := by rw [wi64_id (by omega) (by omega)]; omega
 have i1 : wi64 ((b : Int) - (m : Int)) = (Y.length : Int) := by rw [wi64_id (by omega) (by omega)]; omega
 rw [i0, i1]
 obtain ⟨mid, hmid⟩ : ∃ q, (a + b) / 2 = q := ⟨_, rfl⟩
 have emid : wi64 (bShr .u64 (wu64 (wi64 ((a : Int) + (b : Int)))) 1) = (mid : Int) := by rw [mid_eq _ _ (by omega), hmid]
 have en : wi64 ((mid : Int) + (m : Int)) = ((mid + m : Nat) : Int) := by rw [wi64_id (by omega) (by omega)]; omega
 simp only [emid, en]
 have en1 : wi64 (((mid + m : Nat) : Int) - 1) = ((mid + m - 1 : Nat) : Int) := by rw [wi64_id (by omega) (by omega)]; omega
 simp only [en1]
 refine Ok.brF (by simp; omega) (Ok.brF (by simp; omega) ?_)
 refine Ok.bind (R := fun e => ∃ s r : Nat, e = ((s : Int), (r : Int)) ∧ a ≤ s ∧ s ≤ r ∧ r ≤ m ∧ r ≤ mid ∧ mid + m - s ≤ b ∧ (s = a ∨ mid + m - s = b) ∧ (r = m ∨ r = mid)) ?_ fun e he => ?_
 ·refine Ok.br (fun h => Ok.done ?_) (fun h => Ok.done ?_)
  ·simp only [decide_eq_true_eq] at h
   have enb : wi64 (((mid + m : Nat) : Int) - (b : Int)) = ((mid + m - b : Nat) : Int) := by rw [wi64_id (by omega) (by omega)]; omega
   exact ⟨mid + m - b, mid, Prod.ext enb rfl, by omega, by omega, by omega, by omega, by omega, .inr (by omega), .inr rfl⟩
  ·simp only [decide_eq_false_iff_not] at h
   exact ⟨a, m, rfl, by omega, by omega, by omega, by omega, by omega, .inl rfl, .inl rfl⟩
 obtain ⟨s0, r0, rfl, c1, c2, c3, c4, c5, c6, c7⟩ := he
 dsimp only
 have gx : ∀ c, a ≤ c → c < m → ∃ x, X[c - a]? = some x ∧ (A ++ X ++ Y ++ B)[c]? = some x := fun c h1 h2 => by
  have hk : c - a < X.length := by omega
  have := at_mid (A := A) (Y := X) (B := Y ++ B) hk
  rw [show A.length + (c - a) = c by omega] at this
  exact ⟨X[c - a], List.getElem?_eq_getElem hk, by rw [List.append_assoc]; exact this⟩
 have gy : ∀ c, m ≤ c → c < b → ∃ y, Y[c - m]? = some y ∧ (A ++ X ++ Y ++ B)[c]? = some y := fun c h1 h2 => by
  have hk : c - m < Y.length := by omega
  have := at_mid (A := A ++ X) (Y := Y) (B := B) hk
  rw [hmm, show A.length + X.length + (c - m) = c by omega] at this
  exact ⟨Y[c - m], List.getElem?_eq_getElem hk, this⟩
 refine Ok.bind (R := fun e => ∃ st : Nat, e = (st : Int) ∧ s0 ≤ st ∧ st ≤ r0 ∧ (st = s0 ∨ ∀ x y, X[st - 1 - a]? = some x → Y[mid + m - st - m]? = some y → ¬ x.fPriority < y.fPriority) ∧ (st = r0 ∨ ∀ x y, X[st - a]? = some x → Y[mid + m - 1 - st - m]? = some y → x.fPriority < y.fPriority)) ?_ fun e he => ?_
 ·refine Ok.lp (fun q => ∃ i j : Nat, q = ((i : Int), (j : Int)) ∧ s0 ≤ i ∧ i ≤ j ∧ j ≤ r0 ∧ (i = s0 ∨ ∀ x y, X[i - 1 - a]? = some x → Y[mid + m - i - m]? = some y → ¬ x.fPriority < y.fPriority) ∧ (j = r0 ∨ ∀ x y, X[j - a]? = some x → Y[mid + m - 1 - j - m]? = some y → x.fPriority < y.fPriority)) (fun q => (q.2 - q.1).toNat) ⟨s0, r0, rfl, Nat.le_refl _, c2, Nat.le_refl _, .inl rfl, .inl rfl⟩ (fuel (by dsimp only; omega)) (fun q hq => ?_)
  obtain ⟨i, j, rfl, q1, q2, q3, q4, q5⟩ := hq
  refine Ok.br (fun h => ?_) (fun h => Ok.done ?_)
  ·simp only [decide_eq_true_eq] at h
   have hij : i < j := by omega
   obtain ⟨c, hc⟩ : ∃ c, (i + j) / 2 = c := ⟨_, rfl⟩
   have ec : wi64 (bShr .u64 (wu64 (wi64 ((i : Int) + (j : Int)))) 1) = (c : Int) := by rw [mid_eq _ _ (by omega), hc]
   have ep : wi64 (((mid + m - 1 : Nat) : Int) - (c : Int)) = ((mid + m - 1 - c : Nat) : Int) := by rw [wi64_id (by omega) (by omega)]; omega
   simp only [ec, ep, Int.toNat_natCast, Nat.zero_add]
   obtain ⟨x, x1, x2⟩ := gx c (by omega) (by omega)
   obtain ⟨y, y1, y2⟩ := gy (mid + m - 1 - c) (by omega) (by omega)
   refine Ok.chk (inP (by omega)) (Ok.row rfl y2 (Ok.chk (inP (by omega)) (Ok.row rfl x2 (Ok.call (okCMPP y x) fun r hr => Ok.br (fun h2 => Ok.done ?_) (fun h2 => Ok.done ?_)))))
   ·simp only [Bool.not_eq_true', decide_eq_false_iff_not] at h2
    refine ⟨⟨c + 1, j, ?_, by omega, by omega, q3, .inr fun x' y' hx' hy' => ?_, q5⟩, ?_⟩
    ·rw [wi64_id (by omega) (by omega)]; rfl
    ·rw [show c + 1 - 1 - a = c - a by omega, x1] at hx'
     rw [show mid + m - (c + 1) - m = mid + m - 1 - c - m by omega, y1] at hy'
     obtain rfl := Option.some.inj hx'
     obtain rfl := Option.some.inj hy'
     exact fun h => h2 (hr.2 h)
    ·show ((_ : Int) - wi64 _).toNat < ((_ : Int) - _).toNat
     rw [wi64_id (by omega) (by omega)]; dsimp only; omega
   ·simp only [Bool.not_eq_false', decide_eq_true_eq] at h2
    refine ⟨⟨i, c, rfl, q1, by omega, by omega, q4, .inr fun x' y' hx' hy' => ?_⟩, ?_⟩
    ·rw [x1] at hx'
     rw [y1] at hy'
     obtain rfl := Option.some.inj hx'
     obtain rfl := Option.some.inj hy'
     exact hr.1 h2
    ·dsimp only; omega
  ·simp only [decide_eq_false_iff_not] at h
   have : i = j := by omega
   subst this
   exact ⟨i, rfl, q1, q3, q4, q5⟩
 obtain ⟨st, rfl, d1, d2, d3, d4⟩ := he
 have eend : wi64 (((mid + m : Nat) : Int) - (st : Int)) = ((mid + m - st : Nat) : Int) := by rw [wi64_id (by omega) (by omega)]; omega
 simp only [eend]
 obtain ⟨s, hs⟩ : ∃ s, st - a = s := ⟨_, rfl⟩
 obtain ⟨t, ht⟩ : ∃ t, mid + m - st - m = t := ⟨_, rfl⟩
 have hsX : s ≤ X.length := by omega
 have htY : t ≤ Y.length := by omega
 have cut := cut_lt bef_trans hX hY hsX htY (fun x y h0 hx hy => by
  rcases d3 with e | d3
  ·rcases c6 with e2 | e2
   ·omega
   ·rw [List.getElem?_eq_none (by omega)] at hy; simp at hy
  ·have := d3 x y (by rw [show st - 1 - a = s - 1 by omega]; exact hx) (by rw [ht]; exact hy)
   exact bef_not this (hxy x (List.mem_of_getElem? hx) y (List.mem_of_getElem? hy))) (fun y x h0 hy hx => by
  rcases d4 with e | d4
  ·rcases c7 with e2 | e2
   ·rw [List.getElem?_eq_none (by omega)] at hx; simp at hx
   ·omega
  ·exact bef_less (d4 x y (by rw [hs]; exact hx) (by rw [show mid + m - 1 - st - m = t - 1 by omega]; exact hy)))
 have lX1 : (X.take s).length = s := by rw [List.length_take]; omega
 have lY1 : (Y.take t).length = t := by rw [List.length_take]; omega
 have lX2 : (X.drop s).length = X.length - s := List.length_drop
 have lY2 : (Y.drop t).length = Y.length - t := List.length_drop
 have pX1 : (X.take s).Pairwise bef := hX.sublist (List.take_sublist _ _)
 have pY1 : (Y.take t).Pairwise bef := hY.sublist (List.take_sublist _ _)
 have pX2 : (X.drop s).Pairwise bef := hX.sublist (List.drop_sublist _ _)
 have pY2 : (Y.drop t).Pairwise bef := hY.sublist (List.drop_sublist _ _)
 have eXY : A ++ X ++ Y ++ B = (A ++ X.take s) ++ X.drop s ++ Y.take t ++ (Y.drop t ++ B) := by
  have e1 : X.take s ++ X.drop s = X := List.take_append_drop _ _
  have e2 : Y.take t ++ Y.drop t = Y := List.take_append_drop _ _
  rw [List.append_assoc A (X.take s), e1, List.append_assoc (A ++ X) (Y.take t), ← List.append_assoc (Y.take t), e2, ← List.append_assoc]
 refine Ok.cnd (R := fun c => (c = true ↔ st < m ∧ m < mid + m - st)) ?_ fun c hc => ?_
 ·refine Ok.br (fun h => Ok.done ?_) (fun h => Ok.done ?_)
  ·simp only [decide_eq_true_eq] at h ⊢; omega
  ·simp only [decide_eq_false_iff_not] at h; exact ⟨fun h => by simp at h, fun h => by omega⟩
 refine Ok.bind (R := fun e => e = A ++ X.take s ++ Y.take t ++ X.drop s ++ Y.drop t ++ B) ?_ fun e he => ?_
 ·refine Ok.br (fun h => ?_) (fun h => Ok.done ?_)
  ·obtain ⟨h1, h2⟩ := hc.1 h
   rw [eXY]
   refine Ok.call (okROT (A ++ X.take s) (X.drop s) (Y.take t) (Y.drop t ++ B) p _ _ _ (by rw [← eXY]; exact hp) hp2 (by simp [lX1]; omega) (by simp [lX1]; omega) (by simp [lX1, lY1]; omega) (by omega) (by omega)) fun r hr => Ok.done ?_
   rw [hr]; simp
  ·rw [eXY]
   have h5 : ¬ (st < m ∧ m < mid + m - st) := fun h6 => by rw [hc.2 h6] at h; simp at h
   by_cases h6 : st < m
   ·have h7 : t = 0 := by omega
    rw [h7]; simp
   ·have h7 : X.drop s = [] := List.drop_eq_nil_of_le (by omega)
    rw [h7]; simp only [List.append_nil, List.append_assoc]
 subst he
 refine Ok.cnd (R := fun c => (c = true ↔ a < st ∧ st < mid)) ?_ fun c hc => ?_
 ·refine Ok.br (fun h => Ok.done ?_) (fun h => Ok.done ?_)
  ·simp only [decide_eq_true_eq] at h ⊢; omega
  ·simp only [decide_eq_false_iff_not] at h; exact ⟨fun h => by simp at h, fun h => by omega⟩
 refine Ok.bind (R := fun e => ∃ M1, e = A ++ M1 ++ X.drop s ++ Y.drop t ++ B ∧ Sorts bef (X.take s ++ Y.take t) M1) ?_ fun e he => ?_
 ·refine Ok.br (fun h => ?_) (fun h => Ok.done ?_)
  ·obtain ⟨h1, h2⟩ := hc.1 h
   have key := hR A (X.take s) (Y.take t) (X.drop s ++ Y.drop t ++ B) p (by simp [lX1, lY1, lX2, lY2]; omega) hp2 (by omega) (by omega) (by omega) pX1 pY1 (fun x hx y hy => hxy x (List.mem_of_mem_take hx) y (List.mem_of_mem_take hy))
   rw [show (A ++ X.take s).length = st by simp [lX1]; omega, show (A ++ X.take s ++ Y.take t).length = mid by simp [lX1, lY1]; omega, ha, show A ++ X.take s ++ Y.take t ++ (X.drop s ++ Y.drop t ++ B) = A ++ X.take s ++ Y.take t ++ X.drop s ++ Y.drop t ++ B by simp] at key
   refine Ok.call key fun r hr => Ok.done ?_
   obtain ⟨M1, h5, h6⟩ := hr
   exact ⟨M1, by rw [h5]; simp, h6⟩
  ·have h5 : ¬ (a < st ∧ st < mid) := fun h6 => by rw [hc.2 h6] at h; simp at h
   refine ⟨X.take s ++ Y.take t, by simp, .refl _, ?_⟩
   by_cases h6 : a < st
   ·have h7 : Y.take t = [] := List.length_eq_zero_iff.1 (by omega)
    rw [h7, List.append_nil]; exact pX1
   ·have h7 : X.take s = [] := List.length_eq_zero_iff.1 (by omega)
    rw [h7, List.nil_append]; exact pY1
 obtain ⟨M1, rfl, hM1⟩ := he
 have lM1 : M1.length = s + t := by rw [hM1.1.length_eq]; simp [lX1, lY1]
 refine Ok.cnd (R := fun c => (c = true ↔ mid < mid + m - st ∧ mid + m - st < b)) ?_ fun c hc => ?_
 ·refine Ok.br (fun h => Ok.done ?_) (fun h => Ok.done ?_)
  ·simp only [decide_eq_true_eq] at h ⊢; omega
  ·simp only [decide_eq_false_iff_not] at h; exact ⟨fun h => by simp at h, fun h => by omega⟩
 refine Ok.br (fun h => ?_) (fun h => Ok.done ?_)
 ·obtain ⟨h1, h2⟩ := hc.1 h
  have key := hR (A ++ M1) (X.drop s) (Y.drop t) B p (by simp [lM1, lX2, lY2]; omega) hp2 (by omega) (by omega) (by omega) pX2 pY2 (fun x hx y hy => hxy x (List.mem_of_mem_drop hx) y (List.mem_of_mem_drop hy))
  rw [show (A ++ M1).length = mid by simp [lM1]; omega, show (A ++ M1 ++ X.drop s).length = mid + m - st by simp [lM1, lX2]; omega, show (A ++ M1 ++ X.drop s ++ Y.drop t).length = b by simp [lM1, lX2, lY2]; omega] at key
  refine Ok.call key fun r hr => Ok.done ?_
  obtain ⟨M2, h5, h6⟩ := hr
  exact ⟨M1 ++ M2, by rw [h5]; simp, Sorts.halves cut hM1 h6⟩
 ·have h5 : ¬ (mid < mid + m - st ∧ mid + m - st < b) := fun h6 => by rw [hc.2 h6] at h; simp at h
  refine ⟨M1 ++ (X.drop s ++ Y.drop t), by simp, Sorts.halves cut hM1 ⟨.refl _, ?_⟩⟩
  by_cases h6 : st < m
  ·have h7 : Y.drop t = [] := List.length_eq_zero_iff.1 (by omega)
   rw [h7, List.append_nil]; exact pX2
  ·have h7 : X.drop s = [] := List.length_eq_zero_iff.1 (by omega)
   rw [h7, List.nil_append]; exact pY2
end Go.Proofs.YtioobnkmohikjaaDoor
