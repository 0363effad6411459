/- symMerge, whole: by induction on how deep it goes.
   The stable sort: the list, sorted.
   The pairs of candidates that fit, gathered: a range over a function (a method value), put together by hand.
   The pairs that fit, in order of place: what the range over pairs gathers.
   The pairs that wait, set: a range over a map whose rounds come out alike in whatever order they are made.
   Maps from keys to values, told by their entries: what is looked up, what a put changes.
   All that a map names is set, whatever the order.
   What Make makes: the fitting pairs sorted, alike ones but once, at most 36, the first of each two foundations waiting. Definitions and their plain laws.
   What a made list is like.
   Next, Settled, Turn and Set: the program and its reference come to the same for every list. No conditions.
   Next: the program and its reference come to the same for every list; Same says yes to what is equal. No conditions but on lengths.
   The drafted and bent lists: they come about for every draft, and are short.
   Drafted candidates are valid.
   Guides and contracts, printed by a program.
   Make: what it makes.
   Guides and contracts, printed by a program.
   Guides and contracts, printed by a program.
   wakes says yes: closed, by the kernel. -/
import Derived.Test.YtioobnkmohikjaaDoorS10
import Derived.Test.YtioobnkmohikjaaDoorS9
import Derived.Test.YtioobnkmohikjaaDoorS7
import Derived.Test.YtioobnkmohikjaaDoorS8
import Derived.Test.YtioobnkmohikjaaDoorS6
import Derived.Test.YtioobnkmohikjaaDoorS5
import Derived.KernelRfl
namespace Go.Proofs.YtioobnkmohikjaaDoor
open Go Go.EV
set_option maxRecDepth 100000
theorem okSYM (R : SymR) (N : Nat) (hR : SymP R N) (A X Y B : List SPair) (p : Nat) (hp : p = (A ++ X ++ Y ++ B).length) (hp2 : p ≤ 1000000) (hN : X.length + Y.length ≤ 2 * N) (hX0 : 0 < X.length) (hY0 : 0 < Y.length) (hX : X.Pairwise bef) (hY : Y.Pairwise bef) (hxy : ∀ x, x ∈ X → ∀ y, y ∈ Y → ix x y) :
  SOk (s61 R p (A.length : Int) ((A ++ X).length : Int) ((A ++ X ++ Y).length : Int) (A ++ X ++ Y ++ B)) (fun r => ∃ M, r = A ++ M ++ B ∧ Sorts bef (X ++ Y) M) := by
 by_cases h1 : X.length = 1
 ·obtain ⟨x, rfl⟩ := List.length_eq_one_iff.1 h1
  exact okSYM1 R A Y B x p hp hp2 hY (hxy x (by simp))
 ·by_cases h2 : Y.length = 1
  ·obtain ⟨y, rfl⟩ := List.length_eq_one_iff.1 h2
   exact okSYM2 R A X B y p hp hp2 hX h1 (fun x hx => hxy x hx y (by simp))
  ·exact okSYM3 R N hR A X Y B p hp hp2 hN hX hY (by omega) (by omega) hxy
noncomputable def symN (n : Nat) : SymR := symSh.fix (fun R a => (s61 R a.1 a.2.1 a.2.2.1 a.2.2.2.1 a.2.2.2.2)) (fun R a r h => (s61 R a.1 a.2.1 a.2.2.1 a.2.2.2.1 a.2.2.2.2).ok r h) n
theorem symP : ∀ n : Nat, SymP (symN n) (2 ^ n)
 | 0 => fun A X Y B p hp hp2 hN hX0 hY0 _ _ _ => by simp at hN; omega
 | n + 1 => fun A X Y B p hp hp2 hN hX0 hY0 hX hY hxy => okSYM (symN n) (2 ^ n) (symP n) A X Y B p hp hp2 (by rw [Nat.pow_succ] at hN; omega) hX0 hY0 hX hY hxy
theorem okSYMA (A X Y B : List SPair) (p : Nat) (hp : p = (A ++ X ++ Y ++ B).length) (hp2 : p ≤ 1000000) (hX0 : 0 < X.length) (hY0 : 0 < Y.length) (hX : X.Pairwise bef) (hY : Y.Pairwise bef) (hxy : ∀ x, x ∈ X → ∀ y, y ∈ Y → ix x y) :
  SOk (s61 symAll p (A.length : Int) ((A ++ X).length : Int) ((A ++ X ++ Y).length : Int) (A ++ X ++ Y ++ B)) (fun r => ∃ M, r = A ++ M ++ B ∧ Sorts bef (X ++ Y) M) := by
 refine okSYM symAll (2 ^ 60) (symP 60) A X Y B p hp hp2 ?_ hX0 hY0 hX hY hxy
 have h1 : X.length + Y.length ≤ p := by rw [hp]; simp; omega
 have h2 : (1000000 : Nat) ≤ 2 * 2 ^ 60 := by decide
 omega
end Go.Proofs.YtioobnkmohikjaaDoor
namespace Go.Proofs.YtioobnkmohikjaaDoor
open Go Go.EV
set_option maxRecDepth 100000
inductive BSorted (k : Nat) : List SPair → List SPair → Prop
 | last {S L : List SPair} : S.length ≤ k → Sorts bef S L → BSorted k S L
 | cons {S1 S2 L1 L2 : List SPair} : S1.length = k → Sorts bef S1 L1 → BSorted k S2 L2 → BSorted k (S1 ++ S2) (L1 ++ L2)
theorem BSorted.len {k : Nat} {S L : List SPair} (h : BSorted k S L) : L.length = S.length := by
 induction h with
 | last _ h => exact h.1.length_eq
 | cons _ h _ ih => simp [h.1.length_eq, ih]
theorem BSorted.first {k : Nat} {S L : List SPair} (h : BSorted k S L) (hk : k ≤ S.length) : ∃ S1 S2 L1 L2, S = S1 ++ S2 ∧ L = L1 ++ L2 ∧ S1.length = k ∧ Sorts bef S1 L1 ∧ BSorted k S2 L2 := by
 cases h with
 | last h1 h2 => exact ⟨S, [], L, [], by simp, by simp, by omega, h2, .last (Nat.zero_le _) ⟨.refl _, List.Pairwise.nil⟩⟩
 | cons h1 h2 h3 => exact ⟨_, _, _, _, rfl, rfl, h1, h2, h3⟩
theorem BSorted.whole {k : Nat} {S L : List SPair} (h : BSorted k S L) (hk : S.length ≤ k) : Sorts bef S L := by
 cases h with
 | last h1 h2 => exact h2
 | cons h1 h2 h3 =>
  rename_i S1 S2 L1 L2
  simp only [List.length_append] at hk
  have e : S2 = [] := List.length_eq_zero_iff.1 (by omega)
  subst e
  have e2 : L2 = [] := List.length_eq_zero_iff.1 (by rw [h3.len]; rfl)
  subst e2
  simpa using h2
def Done (k : Nat) (S P : List SPair) (a : Nat) : Prop := P.length = a ∧ a ≤ S.length ∧ ∀ S2 L2, BSorted k S2 L2 → BSorted k (S.take a ++ S2) (P ++ L2)
theorem Done.zero (k : Nat) (S : List SPair) : Done k S [] 0 := ⟨rfl, Nat.zero_le _, fun S2 L2 h => by simpa using h⟩
theorem Done.add {k : Nat} {S P S1 S2 M : List SPair} {a : Nat} (h : Done k S P a) (e : S.drop a = S1 ++ S2) (h1 : S1.length = k) (hs : Sorts bef S1 M) : Done k S (P ++ M) (a + k) ∧ S.drop (a + k) = S2 := by
 have hl : S1.length + S2.length = S.length - a := by rw [← List.length_append, ← e, List.length_drop]
 have ht : S.take (a + k) = S.take a ++ S1 := by rw [List.take_add, e, List.take_left' h1]
 refine ⟨⟨by rw [List.length_append, h.1, hs.1.length_eq, h1], by have := h.2.1; omega, fun S3 L3 h3 => ?_⟩, ?_⟩
 ·rw [ht, List.append_assoc, List.append_assoc]
  exact h.2.2 _ _ (.cons h1 hs h3)
 ·rw [← List.drop_drop, e, List.drop_left' h1]
theorem Done.last {k : Nat} {S P M : List SPair} {a : Nat} (h : Done k S P a) (h1 : (S.drop a).length ≤ k) (hs : Sorts bef (S.drop a) M) : BSorted k S (P ++ M) := by
 have := h.2.2 _ _ (.last h1 hs)
 rwa [List.take_append_drop] at this
theorem sorts_two {S1 S2 X Y M : List SPair} (h1 : Sorts bef S1 X) (h2 : Sorts bef S2 Y) (h : Sorts bef (X ++ Y) M) : Sorts bef (S1 ++ S2) M := ⟨h.1.trans (h1.1.append h2.1), h.2⟩
theorem ix_two {S S0 S1 S2 S3 X Y : List SPair} (hS : S.Pairwise ix) (e : S = S0 ++ (S1 ++ (S2 ++ S3))) (h1 : Sorts bef S1 X) (h2 : Sorts bef S2 Y) : ∀ x, x ∈ X → ∀ y, y ∈ Y → ix x y := fun x hx y hy => by
 subst e
 have a := (List.pairwise_append.1 (List.pairwise_append.1 hS).2.1).2.2
 exact a x (h1.1.mem_iff.1 hx) y (List.mem_append_left _ (h2.1.mem_iff.1 hy))
theorem okSTABLE (S : List SPair) (hS : S.Pairwise ix) (hp2 : S.length ≤ 100000) : SOk (s51 S.length (S.length : Int) S) (fun r => Sorts bef S r) := by
 show Ok (g51 S.length (S.length : Int) S) _
 unfold g51
 refine Ok.bind (R := fun e => ∃ (a : Nat) (P : List SPair), e = (P ++ S.drop a, (a : Int)) ∧ Done 20 S P a ∧ S.length < a + 20) ?_ fun e he => ?_
 ·refine Ok.lp (fun y => ∃ (a : Nat) (P : List SPair), y = (P ++ S.drop a, (a : Int), ((a + 20 : Nat) : Int)) ∧ Done 20 S P a) (fun y => S.length - y.2.1.toNat) ⟨0, [], by simp, Done.zero _ _⟩ (fuel (by dsimp only; omega)) (fun y hy => ?_)
  obtain ⟨a, P, rfl, hD⟩ := hy
  refine Ok.br (fun h => ?_) (fun h => Ok.done ⟨a, P, rfl, hD, by simp only [decide_eq_false_iff_not] at h; omega⟩)
  simp only [decide_eq_true_eq] at h
  have hl : (S.drop a).length = S.length - a := List.length_drop
  have e1 : S.drop a = (S.drop a).take 20 ++ (S.drop a).drop 20 := (List.take_append_drop _ _).symm
  have l1 : ((S.drop a).take 20).length = 20 := by rw [List.length_take]; omega
  have e2 : P ++ S.drop a = P ++ (S.drop a).take 20 ++ (S.drop a).drop 20 := by rw [List.append_assoc, ← e1]
  have key := okINS P ((S.drop a).take 20) ((S.drop a).drop 20) S.length (a : Int) ((a + 20 : Nat) : Int) (by rw [← e2, List.length_append, hD.1, hl]; have := hD.2.1; omega) (by omega) (by rw [hD.1]) (by rw [List.length_append, hD.1, l1]) ((hS.sublist (List.drop_sublist _ _)).sublist (List.take_sublist _ _))
  rw [← e2] at key
  refine Ok.call key fun r hr => Ok.done ?_
  obtain ⟨M, rfl, hM⟩ := hr
  obtain ⟨hD2, e3⟩ := hD.add e1 l1 hM
  refine ⟨⟨a + 20, P ++ M, ?_, hD2⟩, ?_⟩
  ·rw [e3]
   refine Prod.ext rfl (Prod.ext rfl ?_)
   show wi64 (((a + 20 : Nat) : Int) + 20) = _
   rw [wi64_id (by omega) (by omega)]; dsimp only; omega
  ·show S.length - (((a + 20 : Nat) : Int)).toNat < S.length - ((a : Int)).toNat
   omega
 ·obtain ⟨a, P, rfl, hD, hend⟩ := he
  have hl : (S.drop a).length = S.length - a := List.length_drop
  have hal := hD.2.1
  have key := okINS P (S.drop a) [] S.length (a : Int) (S.length : Int) (by rw [List.append_nil, List.length_append, hD.1, hl]; omega) (by omega) (by rw [hD.1]) (by rw [List.length_append, hD.1, hl]; omega) (hS.sublist (List.drop_sublist _ _))
  rw [List.append_nil] at key
  refine Ok.call key fun r hr => ?_
  obtain ⟨M, rfl, hM⟩ := hr
  rw [List.append_nil]
  have hB : BSorted 20 S (P ++ M) := hD.last (by omega) hM
  refine Ok.bind (R := fun r => Sorts bef S r) ?_ fun e he => Ok.done he
  refine Ok.lp (fun y => ∃ (k : Nat) (L : List SPair), y = (L, (k : Int)) ∧ BSorted k S L ∧ 1 ≤ k ∧ k ≤ 200000) (fun y => S.length - y.2.toNat) ⟨20, P ++ M, rfl, hB, by omega, by omega⟩ (fuel (by dsimp only; omega)) (fun y hy => ?_)
  obtain ⟨k, L, rfl, hk, hk1, hk2⟩ := hy
  refine Ok.br (fun h => ?_) (fun h => Ok.done (hk.whole (by simp only [decide_eq_false_iff_not] at h; omega)))
  simp only [decide_eq_true_eq] at h
  have i2 : wi64 ((2 : Int) * (k : Int)) = ((2 * k : Nat) : Int) := by rw [wi64_id (by omega) (by omega)]; omega
  have i3 : wi64 ((k : Int) * 2) = ((2 * k : Nat) : Int) := by rw [wi64_id (by omega) (by omega)]; omega
  simp only [i2, i3]
  have fin : ∀ L', BSorted (2 * k) S L' → Rnd (fun y => ∃ (k : Nat) (L : List SPair), y = (L, (k : Int)) ∧ BSorted k S L ∧ 1 ≤ k ∧ k ≤ 200000) (fun y => S.length - y.2.toNat) (S.length - ((L, (k : Int)) : List SPair × Int).2.toNat) (fun r => Sorts bef S r) (.inl (L', ((2 * k : Nat) : Int))) := fun L' h' => by
   refine ⟨⟨2 * k, L', rfl, h', by omega, by omega⟩, ?_⟩
   show S.length - (((2 * k : Nat) : Int)).toNat < S.length - ((k : Int)).toNat
   omega
  refine Ok.bind (R := fun e => ∃ (a : Nat) (P Q : List SPair), e = (P ++ Q, (a : Int)) ∧ Done (2 * k) S P a ∧ BSorted k (S.drop a) Q ∧ S.length < a + 2 * k) ?_ fun e he => ?_
  ·refine Ok.lp (fun y => ∃ (a : Nat) (P Q : List SPair), y = (P ++ Q, (a : Int), ((a + 2 * k : Nat) : Int)) ∧ Done (2 * k) S P a ∧ BSorted k (S.drop a) Q) (fun y => S.length - y.2.1.toNat) ⟨0, [], L, by simp, Done.zero _ _, hk⟩ (fuel (by dsimp only; omega)) (fun y hy => ?_)
   obtain ⟨a, P, Q, rfl, hD, hQ⟩ := hy
   refine Ok.br (fun h => ?_) (fun h => Ok.done ⟨a, P, Q, rfl, hD, hQ, by simp only [decide_eq_false_iff_not] at h; omega⟩)
   simp only [decide_eq_true_eq] at h
   have hl : (S.drop a).length = S.length - a := List.length_drop
   obtain ⟨S1, S2, X, Q2, e1, rfl, l1, hX, hQ2⟩ := hQ.first (by omega)
   have l2 : S1.length + S2.length = S.length - a := by rw [← List.length_append, ← e1, hl]
   obtain ⟨S3, S4, Y, Q3, rfl, rfl, l3, hY, hQ3⟩ := hQ2.first (by omega)
   simp only [List.length_append] at l2
   have lX := hX.1.length_eq
   have lY := hY.1.length_eq
   have lQ := hQ3.len
   have eS : S = S.take a ++ (S1 ++ (S3 ++ S4)) := by rw [← e1, List.take_append_drop]
   have hlt := hD.2.1
   have key := okSYMA P X Y Q3 S.length (by simp [hD.1]; omega) (by omega) (by omega) (by omega) hX.2 hY.2 (ix_two hS eS hX hY)
   rw [show (P ++ X).length = a + k by simp [hD.1]; omega, show (P ++ X ++ Y).length = a + 2 * k by simp [hD.1]; omega, hD.1, show P ++ X ++ Y ++ Q3 = P ++ (X ++ (Y ++ Q3)) by simp] at key
   have i4 : wi64 ((a : Int) + (k : Int)) = ((a + k : Nat) : Int) := by rw [wi64_id (by omega) (by omega)]; omega
   simp only [i4]
   refine Ok.call key fun r hr => Ok.done ?_
   obtain ⟨M, rfl, hM⟩ := hr
   obtain ⟨hD2, e3⟩ := hD.add (S1 := S1 ++ S3) (S2 := S4) (by rw [e1]; simp) (by simp; omega) (sorts_two hX hY hM)
   refine ⟨⟨a + 2 * k, P ++ M, Q3, ?_, hD2, by rw [e3]; exact hQ3⟩, ?_⟩
   ·refine Prod.ext rfl (Prod.ext rfl ?_)
    show wi64 (((a + 2 * k : Nat) : Int) + ((2 * k : Nat) : Int)) = _
    rw [wi64_id (by omega) (by omega)]; dsimp only; omega
   ·show S.length - (((a + 2 * k : Nat) : Int)).toNat < S.length - ((a : Int)).toNat
    omega
  ·obtain ⟨a, P, Q, rfl, hD, hQ, hend⟩ := he
   have hl : (S.drop a).length = S.length - a := List.length_drop
   have hal := hD.2.1
   have i4 : wi64 ((a : Int) + (k : Int)) = ((a + k : Nat) : Int) := by rw [wi64_id (by omega) (by omega)]; omega
   simp only [i4]
   refine Ok.br (fun h => ?_) (fun h => Ok.done (fin _ (hD.last (by omega) (hQ.whole (by simp only [decide_eq_false_iff_not] at h; omega)))))
   simp only [decide_eq_true_eq] at h
   obtain ⟨S1, S2, X, Y, e1, rfl, l1, hX, hQ2⟩ := hQ.first (by omega)
   have l2 : S1.length + S2.length = S.length - a := by rw [← List.length_append, ← e1, hl]
   have hY := hQ2.whole (by omega)
   have lX := hX.1.length_eq
   have lY := hY.1.length_eq
   have eS : S = S.take a ++ (S1 ++ (S2 ++ [])) := by rw [List.append_nil, ← e1, List.take_append_drop]
   have key := okSYMA P X Y [] S.length (by simp [hD.1]; omega) (by omega) (by omega) (by omega) hX.2 hY.2 (ix_two hS eS hX hY)
   rw [show (P ++ X).length = a + k by simp [hD.1]; omega, show (P ++ X ++ Y).length = S.length by simp [hD.1]; omega, hD.1, show P ++ X ++ Y ++ [] = P ++ (X ++ Y) by simp] at key
   refine Ok.call key fun r hr => Ok.done ?_
   obtain ⟨M, rfl, hM⟩ := hr
   rw [List.append_nil]
   exact fin _ (hD.last (by omega) (by rw [e1]; exact sorts_two hX hY hM))
theorem okSORTF (S : List SPair) (hS : S.Pairwise ix) (hp2 : S.length ≤ 100000) : SOk (s26 S.length S) (fun r => Sorts bef S r) := by
 show Ok (g26 S.length S) _
 unfold g26
 exact Ok.call (okSTABLE S hS hp2) fun r hr => Ok.done hr
end Go.Proofs.YtioobnkmohikjaaDoor
namespace Go.Proofs.YtioobnkmohikjaaDoor
open Go Go.EV
set_option maxRecDepth 100000
def paC (x : SPair) : List V := [.int .i64 x.fLocal, .int .i64 x.fRemote, .int .i64 x.fPriority, .int .i64 x.fState]
def caC (x : SCandidate) : List V := [.int .i64 x.fKind, .int .i64 x.fComponent, .int .i64 x.fPriority, .str x.fFoundation, .str x.fAddr.fHost, .int .i64 x.fAddr.fPort, .str x.fBase.fHost, .int .i64 x.fBase.fPort]
def paO (out : List SPair) : V := .ref 1900070 0 out.length
def paTs : List (Nat × V) := [(6, .ptr 1000006 0 0), (7, .int .i64 0), (8, .ptr 1700061 0 0), (9, .ptr 1000009 0 0), (49, .fn 25 [.ptr 1700061 0 0] [])]
def paL (c : Bool) (ls rs : List SCandidate) (o : V) : List (Nat × Blk) :=
 [(1000006, ⟨4, true, [[.bool false, .nilsl, .nilsl, .nilsl]]⟩), (1000009, ⟨1, true, [[o]]⟩), (1700061, ⟨4, true, [[.bool c, .ref 1700062 0 ls.length, .ref 1700063 0 rs.length, .nilsl]]⟩)]
def paT (ls rs : List SCandidate) (out : List SPair) : List BT := [BT.of 1900070 tySPair 4 out true, BT.of 1700062 tySCandidate 8 ls true, BT.of 1700063 tySCandidate 8 rs true]
def paX (ts : List (Nat × V)) (c : Bool) (ls rs : List SCandidate) (out : List SPair) : Ext := Ext.of .normal ts (paL c ls rs (paO out)) (paT ls rs out) (by rfl)
def paB (c : Bool) (ls rs : List SCandidate) (out : List SPair) : List (Nat × Blk) := (paX [] c ls rs out).bs
theorem gst_to {st : St} (x : Ext) {n : Nat} (hok : x.ok = true) (hn : st.n = n) (h : extTs x st = x.ts ∧ extBs x st = x.bs.map fun p => (p.1, some p.2)) : Gst GG st (x.D n).st := by
 subst hn; exact ext_ghost hok h.1 h.2
def cRn : Code → Code
 | .seq _ (.scope (.seq _ (.seq _ (.seq _ (.seq _ (.seq (.seq _ (.block _ c)) _)))))) => c
 | _ => .skip
noncomputable def paR : Code := cRn (Tryd.f8.body.getD .skip)
noncomputable def paAs : Code := rAssign paR
noncomputable def paBd : Code := rBody paR
section
variable (c : Bool) (ls rs : List SCandidate) (out : List SPair)
def xRa (x : SPair) : Ext := paX ((50, .agg (paC x)) :: paTs) c ls rs out
def xRb (x : SPair) : Ext := Ext.of .normal (paTs ++ [(10, .ptr 10 0 0)]) ((10, ⟨4, true, [paC x]⟩) :: paL c ls rs (paO out)) (paT ls rs out) (by rfl)
def xRd (x : SPair) : Ext := Ext.of .normal [] (paL c ls rs (.ref 54 0 (out ++ [x]).length)) [BT.of 54 tySPair 4 (out ++ [x]) true, BT.of 1700062 tySCandidate 8 ls true, BT.of 1700063 tySCandidate 8 rs true] (by rfl)
theorem kRa (x : SPair) : Piece Tryd.prog GG [6, 7, 8, 9, 10, 49] 154 paAs (xRa c ls rs out x) (.done () : TT Unit) (fun _ => xRb c ls rs out x) := by unfold Piece; kernel_rfl
def gRd (x : SPair) : TT Unit := .app 9004 tySPair out [x] 32 false (by intro h; cases h) (.done ())
theorem kRd (x : SPair) : Piece Tryd.prog GG [54] 154 paBd (xRb c ls rs out x) (gRd out x) (fun _ => xRd c ls rs out x) := by unfold Piece; kernel_rfl
end
theorem mob9 {c : Bool} {ls rs : List SCandidate} {out : List SPair} {x : SPair} {g : St} (h : Gst GG g ((xRd c ls rs out x).D 154).st) : Gst GG g (susp 154 (fun _ => .undef) (ofL (paB c ls rs (out ++ [x])))) :=
 Gst.trans h (Gst.mob (lits := paL c ls rs (.ref 54 0 (out ++ [x]).length)) (rest := [(1700062, (BT.of 1700062 tySCandidate 8 ls true).k), (1700063, (BT.of 1700063 tySCandidate 8 rs true).k)]) (kd := (BT.of 54 tySPair 4 (out ++ [x]) true).k) (d := 54) (m := 1900070) (n := 154)
  (by decide) (by decide) (by decide) (by decide : ([1000006, 1000009, 1700061, 54, 1700062, 1700063] : List Nat).Nodup) (tySPair.data _) (by
   intro p hp
   simp only [List.mem_cons, List.not_mem_nil, or_false] at hp
   rcases hp with rfl | rfl
   ·exact tySCandidate.data ls
   ·exact tySCandidate.data rs) (by rfl) (by rfl))
theorem roundMake (c : Bool) (ls rs : List SCandidate) (out : List SPair) (x : SPair) (hb : (gRd out x).run = some ()) :
  RoundT Tryd.prog GG 154 (tOf paTs) [50] paAs paBd (ofL (paB c ls rs out)) [.agg (paC x)] (fun e b' => e = .normal ∧ b' = ofL (paB c ls rs (out ++ [x]))) := by
 refine ⟨((xRb c ls rs out x).D 154).st, ?_, ?_⟩
 ·have h := (kRa c ls rs out x).tv mixed (r := ()) rfl (by rfl)
  have e : ((xRa c ls rs out x).D 154).st = setP (susp 154 (tOf paTs) (ofL (paB c ls rs out))) ([50].zip [.agg (paC x)]) := by
   rw [ext_susp (by rfl)]
   exact (setP_susp 154 paTs _ 50 (.agg (paC x))).symm
  rw [e] at h
  exact h
 ·refine ((kRd c ls rs out x).tv mixed hb (by rfl)).mono fun e s' hg => ?_
  obtain ⟨rfl, g⟩ := hg
  exact ⟨_, 154, ⟨rfl, rfl⟩, mob9 g⟩
def paArgs (l : Nat) : List V := [.ptr 1700061 0 0, .yld l]
noncomputable def cIt : Code := Tryd.f25.body.getD .skip
noncomputable def iR0 : Code := cL cIt
noncomputable def cOut : Code := cB (cB (cR cIt))
noncomputable def iR1 : Code := cL cOut
noncomputable def cO2 : Code := cB (cL (cR (cR cOut)))
noncomputable def iR2 : Code := cL cO2
noncomputable def iR3 : Code := cL (cR cO2)
noncomputable def cIn : Code := cB (cB (cR (cR cO2)))
noncomputable def iR10 : Code := cR (cR (cR cOut))
noncomputable def iR4 : Code := cL cIn
noncomputable def cI2 : Code := cB (cL (cR (cR cIn)))
noncomputable def iR5 : Code := cL cI2
noncomputable def iR6 : Code := cL (cR cI2)
noncomputable def iR7 : Code := cL (cR (cR cI2))
noncomputable def ops8 : Array Oper := rOps (cL (cR (cR (cR cI2))))
noncomputable def iR9 : Code := cR (cR (cR cIn))
theorem eIt : cIt = .seq iR0 (.block 0 (.loop cOut)) := by kernel_rfl
theorem eOut : cOut = .seq iR1 (.seq (.cond (.tmp 16) .skip (.exit 0)) (.seq (.block 1 (.seq iR2 (.seq iR3 (.block 2 (.loop cIn))))) iR10)) := by kernel_rfl
theorem eIn : cIn = .seq iR4 (.seq (.cond (.tmp 27) .skip (.exit 2)) (.seq (.block 3 (.seq iR5 (.seq iR6 (.seq iR7 (.seq (.region 8 ops8 false) (.cond (.tmp 46) .ret .skip)))))) iR9)) := by kernel_rfl
section
variable (l : Nat) (c : Bool) (ls rs : List SCandidate)
def tA (i : Int) : List (Nat × V) := [(0, .ptr 1700061 0 0), (1, .yld l), (13, .ref 1700062 0 ls.length), (14, .int .i64 (ls.length : Int)), (15, .int .i64 i)]
def tB (i : Int) (a : SCandidate) : List (Nat × V) := tA l ls i ++ [(4, .int .i64 i), (5, .snap (caC a))]
def tC (i k : Int) (a : SCandidate) : List (Nat × V) := tB l ls i a ++ [(24, .ref 1700063 0 rs.length), (25, .int .i64 (rs.length : Int)), (26, .int .i64 k)]
def tD (i k : Int) (a : SCandidate) : List (Nat × V) := tC l ls rs i k a ++ [(6, .int .i64 k), (7, .ptr 7 0 0)]
def tE (i k : Int) (a : SCandidate) : List (Nat × V) := tD l ls rs i k a ++ [(8, .ptr 8 0 0)]
def xI (out : List SPair) : Ext := paX (argTs (paArgs l)) c ls rs out
def xA (i : Int) (out : List SPair) : Ext := paX (tA l ls i) c ls rs out
def xA1 (i : Int) (out : List SPair) : Ext := paX (tA l ls i ++ [(16, .bool (decide (i < (ls.length : Int))))]) c ls rs out
def xB0 (i : Int) (a : SCandidate) (out : List SPair) : Ext := Ext.of .normal (tA l ls i ++ [(4, .int .i64 i), (5, .ptr 5 0 0)]) ((5, ⟨8, true, [caC a]⟩) :: paL c ls rs (paO out)) (paT ls rs out) (by rfl)
def xB (i : Int) (a : SCandidate) (out : List SPair) : Ext := paX (tB l ls i a) c ls rs out
def xC (i k : Int) (a : SCandidate) (out : List SPair) : Ext := paX (tC l ls rs i k a) c ls rs out
def xC1 (i k : Int) (a : SCandidate) (out : List SPair) : Ext := paX (tC l ls rs i k a ++ [(27, .bool (decide (k < (rs.length : Int))))]) c ls rs out
def xD (i k : Int) (a b : SCandidate) (out : List SPair) : Ext := Ext.of .normal (tD l ls rs i k a) ((7, ⟨8, true, [caC b]⟩) :: paL c ls rs (paO out)) (paT ls rs out) (by rfl)
def xE (i k p : Int) (a b : SCandidate) (out : List SPair) : Ext := Ext.of .normal (tE l ls rs i k a) ((7, ⟨8, true, [caC b]⟩) :: (8, ⟨4, true, [paC ⟨i, k, p, 0⟩]⟩) :: paL c ls rs (paO out)) (paT ls rs out) (by rfl)
def tF (i k p : Int) (f : Bool) : List (Nat × V) := bif f then [(41, .bool true), (42, .yld l), (43, .agg (paC ⟨i, k, p, 0⟩))] else [(41, .bool false), (42, .tup []), (43, .tup [])]
def xF (i k p : Int) (a b : SCandidate) (out : List SPair) (f : Bool) : Ext := Ext.of .normal (tE l ls rs i k a ++ tF l i k p f) ((7, ⟨8, true, [caC b]⟩) :: (8, ⟨4, true, [paC ⟨i, k, p, 0⟩]⟩) :: paL c ls rs (paO out)) (paT ls rs out) (by rfl)
def xG (i k p : Int) (a : SCandidate) (out : List SPair) (f : Bool) : Ext := paX (tC l ls rs i k a ++ tF l i k p f) c ls rs out
theorem kR0 (out : List SPair) : Piece Tryd.prog GG [0, 1, 13, 14, 15] 49 iR0 (xI l c ls rs out) (.done () : TT Unit) (fun _ => xA l c ls rs 0 out) := by unfold Piece; kernel_rfl
theorem kR1 (i : Int) (out : List SPair) : Piece Tryd.prog GG [0, 1, 13, 14, 15, 16] 49 iR1 (xA l c ls rs i out) (.done () : TT Unit) (fun _ => xA1 l c ls rs i out) := by unfold Piece; kernel_rfl
def gR2 (i : Int) : TT SCandidate := .chk 2002 (decide (0 ≤ i) && decide (i < (ls.length : Int))) (.row 2003 tySCandidate ls (0 + i.toNat) true fun x => .done x)
theorem kR2 (i : Int) (out : List SPair) : Piece Tryd.prog GG [0, 1, 4, 5, 13, 14, 15] 49 iR2 (xA l c ls rs i out) (gR2 ls i) (fun a => xB0 l c ls rs i a out) := by unfold Piece; kernel_rfl
theorem kR3 (i : Int) (a : SCandidate) (out : List SPair) : Piece Tryd.prog GG [0, 1, 4, 5, 13, 14, 15, 24, 25, 26] 49 iR3 (xB l c ls rs i a out) (.done () : TT Unit) (fun _ => xC l c ls rs i 0 a out) := by unfold Piece; kernel_rfl
theorem kR4 (i k : Int) (a : SCandidate) (out : List SPair) : Piece Tryd.prog GG [0, 1, 4, 5, 13, 14, 15, 24, 25, 26, 27] 49 iR4 (xC l c ls rs i k a out) (.done () : TT Unit) (fun _ => xC1 l c ls rs i k a out) := by unfold Piece; kernel_rfl
def gR5 (k : Int) : TT SCandidate := .chk 5002 (decide (0 ≤ k) && decide (k < (rs.length : Int))) (.row 5003 tySCandidate rs (0 + k.toNat) true fun x => .done x)
theorem kR5 (i k : Int) (a : SCandidate) (out : List SPair) : Piece Tryd.prog GG [0, 1, 4, 5, 6, 7, 13, 14, 15, 24, 25, 26] 49 iR5 (xC l c ls rs i k a out) (gR5 rs k) (fun b => xD l c ls rs i k a b out) := by unfold Piece; kernel_rfl
theorem kR6 (i k : Int) (a b : SCandidate) (out : List SPair) : Piece Tryd.prog GG [0, 1, 4, 5, 6, 7, 8, 13, 14, 15, 24, 25, 26] 49 iR6 (xD l c ls rs i k a b out) (.done () : TT Unit) (fun _ => xE l c ls rs i k 0 a b out) := by unfold Piece; kernel_rfl
noncomputable def gR7 (i k : Int) : TT Int := .view 7003 (s35_1 c ls rs (SPair.mk i k 0 0)) [(VwW.of 1700062 tySCandidate ls), (VwW.of 1700063 tySCandidate rs)] fun r => .done r
theorem kR7 (i k : Int) (a b : SCandidate) (out : List SPair) : Piece Tryd.prog GG [0, 1, 4, 5, 6, 7, 8, 13, 14, 15, 24, 25, 26] 49 iR7 (xE l c ls rs i k 0 a b out) (gR7 c ls rs i k) (fun p => xE l c ls rs i k p a b out) := by unfold Piece; kernel_rfl
noncomputable def gR8 (a b : SCandidate) : TT Bool := .call 8003 (s50 a b) [] [] fun r => .br 8005 r (.done true) (.done false)
theorem kR8 (i k p : Int) (a b : SCandidate) (out : List SPair) : PieceOps Tryd.prog GG [0, 1, 4, 5, 6, 7, 8, 13, 14, 15, 24, 25, 26, 41, 42, 43] 49 8 ops8 6 (xE l c ls rs i k p a b out) (gR8 a b) (xF l c ls rs i k p a b out) := by unfold PieceOps; kernel_rfl
theorem kR9 (i k : Int) (a : SCandidate) (out : List SPair) : Piece Tryd.prog GG [0, 1, 4, 5, 13, 14, 15, 24, 25, 26] 49 iR9 (xC l c ls rs i k a out) (.done () : TT Unit) (fun _ => xC l c ls rs i (wi64 (k + 1)) a out) := by unfold Piece; kernel_rfl
theorem kR10 (i : Int) (out : List SPair) : Piece Tryd.prog GG [0, 1, 13, 14, 15] 49 iR10 (xA l c ls rs i out) (.done () : TT Unit) (fun _ => xA l c ls rs (wi64 (i + 1)) out) := by unfold Piece; kernel_rfl
end
noncomputable def inStep (c : Bool) (ls rs : List SCandidate) (i : Int) (a : SCandidate) (s : Int × List SPair) : Option ((Int × List SPair) ⊕ List SPair) :=
 bif decide (s.1 < (rs.length : Int)) then
  (match (gR5 rs s.1).run with
  | none => none
  | some b => match (gR7 c ls rs i s.1).run with
   | none => none
   | some p => match (gR8 a b).run with
    | none => none
    | some f => bif f then (match (gRd s.2 ⟨i, s.1, p, 0⟩).run with
      | none => none
      | some _ => some (.inl (wi64 (s.1 + 1), s.2 ++ [⟨i, s.1, p, 0⟩])))
     else some (.inl (wi64 (s.1 + 1), s.2)))
 else some (.inr s.2)
noncomputable def inM (c : Bool) (ls rs : List SCandidate) (i : Int) (a : SCandidate) (out : List SPair) : Option (List SPair) := iter (inStep c ls rs i a) FUEL (0, out)
noncomputable def outStep (c : Bool) (ls rs : List SCandidate) (s : Int × List SPair) : Option ((Int × List SPair) ⊕ List SPair) :=
 bif decide (s.1 < (ls.length : Int)) then
  (match (gR2 ls s.1).run with
  | none => none
  | some a => match inM c ls rs s.1 a s.2 with
   | none => none
   | some out => some (.inl (wi64 (s.1 + 1), out)))
 else some (.inr s.2)
noncomputable def pairsM (c : Bool) (ls rs : List SCandidate) : Option (List SPair) := iter (outStep c ls rs) FUEL (0, [])
noncomputable def paYL : YL := ⟨154, tOf paTs, #[50], paAs, paBd⟩
theorem inner (l : Nat) (c : Bool) (ls rs : List SCandidate) (i : Int) (a : SCandidate) (out : List SPair) {r : List SPair} (h : inM c ls rs i a out = some r) {Q : Exit → YS → Prop}
    (hq : ∀ st, Gst GG st ((xA l c ls rs i r).D 49).st → Q .normal ⟨.normal, st⟩) :
    YT Tryd.prog GG paYL l (.block 2 (.loop cIn)) ⟨.normal, ((xC l c ls rs i 0 a out).D 49).st⟩ Q := by
  refine YT.block ?_
  refine YT.loop (fun m s => s.x = .normal ∧ ∃ y : Int × List SPair, Gst GG s.st ((xC l c ls rs i y.1 a y.2).D 49).st ∧ iter (inStep c ls rs i a) m y = some r) (fun m s hI => ?_) (n := FUEL) ⟨rfl, (0, out), Gst.same _, h⟩
  obtain ⟨x, st⟩ := s
  obtain ⟨rfl, ⟨k, o⟩, g, hit⟩ := hI
  refine YT.gst g ?_
  cases m with
  | zero => simp [iter] at hit
  | succ m =>
    rw [iter_succ] at hit
    rw [eIn]
    refine YT.seq (YT.piece (kR4 l c ls rs i k a o) mixed rfl (by rfl) fun s g => ?_)
    show YT _ _ _ _ _ _ _
    refine YT.gst g ?_
    cases hc : decide (k < (rs.length : Int)) with
    | false =>
      have hs0 : inStep c ls rs i a (k, o) = some (.inr o) := by unfold inStep; simp only [hc]; rfl
      rw [hs0] at hit
      obtain rfl : o = r := Option.some.inj hit
      refine YT.seq (YT.cond (b := false) (by show some (V.bool (decide (k < (rs.length : Int)))) = _; rw [hc]) (YT.exit ?_))
      show Q .normal _
      exact hq _ (gst_to (xA l c ls rs i o) (by rfl) rfl ⟨by rfl, by rfl⟩)
    | true =>
      refine YT.seq (YT.cond (b := true) (by show some (V.bool (decide (k < (rs.length : Int)))) = _; rw [hc]) (YT.skip ?_))
      show YT _ _ _ _ _ _ _
      refine YT.gst (st' := ((xC l c ls rs i k a o).D 49).st) (gst_to (xC l c ls rs i k a o) (by rfl) rfl ⟨by rfl, by rfl⟩) ?_
      cases h5 : (gR5 rs k).run with
      | none => have hs0 : inStep c ls rs i a (k, o) = none := by unfold inStep; simp only [hc, h5]; rfl
                rw [hs0] at hit; simp at hit
      | some b =>
      cases h7 : (gR7 c ls rs i k).run with
      | none => have hs0 : inStep c ls rs i a (k, o) = none := by unfold inStep; simp only [hc, h5, h7]; rfl
                rw [hs0] at hit; simp at hit
      | some p =>
      cases h8 : (gR8 a b).run with
      | none => have hs0 : inStep c ls rs i a (k, o) = none := by unfold inStep; simp only [hc, h5, h7, h8]; rfl
                rw [hs0] at hit; simp at hit
      | some f =>
      have next : ∀ (o2 : List SPair) (st : St), iter (inStep c ls rs i a) m (wi64 (k + 1), o2) = some r → Gst GG st ((xC l c ls rs i k a o2).D 49).st →
          YT Tryd.prog GG paYL l iR9 ⟨.normal, st⟩ (thenY (fun s' => ∃ m', m' < m + 1 ∧ s'.x = .normal ∧ ∃ y : Int × List SPair, Gst GG s'.st ((xC l c ls rs i y.1 a y.2).D 49).st ∧ iter (inStep c ls rs i a) m' y = some r) (inBlockY 2 Q)) := fun o2 st h2 g2 => by
        refine YT.gst g2 ?_
        refine YT.piece (kR9 l c ls rs i k a o2) mixed rfl (by rfl) fun s g => ?_
        exact ⟨m, Nat.lt_succ_self m, rfl, (wi64 (k + 1), o2), g, h2⟩
      refine YT.seq (YT.block (YT.seq (YT.piece (kR5 l c ls rs i k a o) mixed h5 (by rfl) fun s g => ?_)))
      show YT _ _ _ _ _ _ _
      refine YT.gst g ?_
      refine YT.seq (YT.piece (kR6 l c ls rs i k a b o) mixed rfl (by rfl) fun s g => ?_)
      show YT _ _ _ _ _ _ _
      refine YT.gst g ?_
      refine YT.seq (YT.piece (kR7 l c ls rs i k a b o) mixed h7 (by rfl) fun s g => ?_)
      show YT _ _ _ _ _ _ _
      refine YT.gst g ?_
      refine YT.seq (YT.region ?_)
      show YTops _ _ _ _ _ ([0, 1, 2, 3, 4, 5] ++ [6, 7, 8]) _ _
      refine YTops.tv ((kR8 l c ls rs i k p a b o).tv mixed h8 (by cases f <;> rfl)) fun e st hq' => ⟨by rw [hq'.1]; cases f <;> rfl, YTops.gst hq'.2 ?_⟩
      refine YTops.gst (st' := ((xG l c ls rs i k p a o f).D 49).st) (by cases f <;> exact gst_to _ (by rfl) rfl ⟨by rfl, by rfl⟩) ?_
      cases f with
      | false =>
        have hs0 : inStep c ls rs i a (k, o) = some (.inl (wi64 (k + 1), o)) := by unfold inStep; simp only [hc, h5, h7, h8]; rfl
        rw [hs0] at hit
        refine YTops.step rfl (YTops.step rfl (YTops.step rfl (YTops.nil ?_)))
        show YT _ _ _ _ _ _ _
        refine YT.cond (b := false) rfl (YT.skip ?_)
        show YT _ _ _ _ _ _ _
        exact next o _ hit (gst_to (xC l c ls rs i k a o) (by rfl) rfl ⟨by rfl, by rfl⟩)
      | true =>
        cases hd : (gRd o ⟨i, k, p, 0⟩).run with
        | none => have hs0 : inStep c ls rs i a (k, o) = none := by unfold inStep; simp only [hc, h5, h7, h8, hd]; rfl
                  rw [hs0] at hit; simp at hit
        | some u =>
        have hs0 : inStep c ls rs i a (k, o) = some (.inl (wi64 (k + 1), o ++ [⟨i, k, p, 0⟩])) := by unfold inStep; simp only [hc, h5, h7, h8, hd]; rfl
        rw [hs0] at hit
        rw [ext_susp (x := xG l c ls rs i k p a o true) (by rfl) 49]
        refine YTops.yieldG (hi := rfl) rfl rfl rfl rfl rfl rfl rfl ?_ ?_ ?_ rfl (roundMake c ls rs o ⟨i, k, p, 0⟩ hd) ?_ ?_
        · exact fun i => tOf_ok (by rfl) i
        · exact fun i => tOf_ok (by rfl) i
        · intro p hp
          have : p ∈ [50] := hp
          simp at this
          subst this
          exact (by decide : 50 < 154)
        · exact fun e b' h => .inl h.1
        · intro e b' h
          obtain ⟨rfl, rfl⟩ := h
          refine YTops.step rfl (YTops.step rfl (YTops.nil ?_))
          show YT _ _ _ _ _ _ _
          refine YT.cond (b := false) rfl (YT.skip ?_)
          show YT _ _ _ _ _ _ _
          exact next _ _ hit (gst_to (xC l c ls rs i k a (o ++ [⟨i, k, p, 0⟩])) (by rfl) rfl ⟨by rfl, by rfl⟩)
theorem iterMake (c : Bool) (ls rs : List SCandidate) {r : List SPair} (h : pairsM c ls rs = some r) :
    IterT Tryd.prog GG cIt 49 paArgs (ofL (paB c ls rs [])) paYL (fun e b => e = .normal ∧ b = ofL (paB c ls rs r)) := by
  refine IterT.of fun l => ?_
  have e0 : entry 49 (paArgs l) (ofL (paB c ls rs [])) = ((xI l c ls rs []).D 49).st := (entry_ext (x := xI l c ls rs []) (by rfl) (by rfl) 49).symm
  rw [e0, eIt]
  refine YT.seq (YT.piece (kR0 l c ls rs []) mixed rfl (by rfl) fun s g => ?_)
  show YT _ _ _ _ _ _ _
  refine YT.gst g ?_
  refine YT.block ?_
  refine YT.loop (fun m s => s.x = .normal ∧ ∃ y : Int × List SPair, Gst GG s.st ((xA l c ls rs y.1 y.2).D 49).st ∧ iter (outStep c ls rs) m y = some r) (fun m s hI => ?_) (n := FUEL) ⟨rfl, (0, []), Gst.same _, h⟩
  obtain ⟨x, st⟩ := s
  obtain ⟨rfl, ⟨i, o⟩, g, hit⟩ := hI
  refine YT.gst g ?_
  cases m with
  | zero => simp [iter] at hit
  | succ m =>
    rw [iter_succ] at hit
    rw [eOut]
    refine YT.seq (YT.piece (kR1 l c ls rs i o) mixed rfl (by rfl) fun s g => ?_)
    show YT _ _ _ _ _ _ _
    refine YT.gst g ?_
    cases hc : decide (i < (ls.length : Int)) with
    | false =>
      have hs0 : outStep c ls rs (i, o) = some (.inr o) := by unfold outStep; simp only [hc]; rfl
      rw [hs0] at hit
      obtain rfl : o = r := Option.some.inj hit
      refine YT.seq (YT.cond (b := false) (by show some (V.bool (decide (i < (ls.length : Int)))) = _; rw [hc]) (YT.exit ?_))
      refine ⟨.inl rfl, 49, tOf (xA1 l c ls rs i o).ts, ofL (paB c ls rs o), ?_, rfl, rfl⟩
      show Gst GG ((xA1 l c ls rs i o).D 49).st _
      rw [ext_susp (by rfl) 49]
      exact Gst.same _
    | true =>
      refine YT.seq (YT.cond (b := true) (by show some (V.bool (decide (i < (ls.length : Int)))) = _; rw [hc]) (YT.skip ?_))
      show YT _ _ _ _ _ _ _
      refine YT.gst (st' := ((xA l c ls rs i o).D 49).st) (gst_to (xA l c ls rs i o) (by rfl) rfl ⟨by rfl, by rfl⟩) ?_
      cases h2 : (gR2 ls i).run with
      | none => have hs0 : outStep c ls rs (i, o) = none := by unfold outStep; simp only [hc, h2]; rfl
                rw [hs0] at hit; simp at hit
      | some a =>
      cases h3 : inM c ls rs i a o with
      | none => have hs0 : outStep c ls rs (i, o) = none := by unfold outStep; simp only [hc, h2, h3]; rfl
                rw [hs0] at hit; simp at hit
      | some o2 =>
      have hs0 : outStep c ls rs (i, o) = some (.inl (wi64 (i + 1), o2)) := by unfold outStep; simp only [hc, h2, h3]; rfl
      rw [hs0] at hit
      refine YT.seq (YT.block (YT.seq (YT.piece (kR2 l c ls rs i o) mixed h2 (by rfl) fun s g => ?_)))
      show YT _ _ _ _ _ _ _
      refine YT.gst g ?_
      refine YT.gst (Gst.snapT (t := 5) (b := 5) (k := ⟨8, true, [caC a]⟩) (row := caC a) rfl rfl rfl (by show 8 < MAPS; decide) (by simp [caC, dcell])) ?_
      refine YT.gst (st' := ((xB l c ls rs i a o).D 49).st) (gst_to (xB l c ls rs i a o) (by rfl) rfl ⟨by rfl, by rfl⟩) ?_
      refine YT.seq (YT.piece (kR3 l c ls rs i a o) mixed rfl (by rfl) fun s g => ?_)
      show YT _ _ _ _ _ _ _
      refine YT.gst g ?_
      refine inner l c ls rs i a o h3 fun st g => ?_
      show YT _ _ _ _ _ _ _
      refine YT.gst g ?_
      refine YT.piece (kR10 l c ls rs i o2) mixed rfl (by rfl) fun s g => ?_
      exact ⟨m, Nat.lt_succ_self m, rfl, (wi64 (i + 1), o2), g, hit⟩
def paFTs : List (Nat × V) := [(6, .ptr 6 0 0), (7, .int .i64 0), (8, .ptr 700061 0 0), (9, .ptr 9 0 0)]
def paFL (c : Bool) (ls rs : List SCandidate) (out : List SPair) : List (Nat × Blk) :=
 [(6, ⟨4, true, [[.bool false, .nilsl, .nilsl, .nilsl]]⟩), (9, ⟨1, true, [[.ref 900070 0 out.length]]⟩), (700061, ⟨4, true, [[.bool c, .ref 700062 0 ls.length, .ref 700063 0 rs.length, .nilsl]]⟩)]
def paFT (ls rs : List SCandidate) (out : List SPair) : List BT := [BT.of 900070 tySPair 4 out true, BT.of 700062 tySCandidate 8 ls true, BT.of 700063 tySCandidate 8 rs true]
def xPa (c : Bool) (ls rs : List SCandidate) (out : List SPair) : Ext := Ext.of .normal (paFTs ++ [(49, .fn 25 [.ptr 700061 0 0] [])]) (paFL c ls rs out) (paFT ls rs out) (by rfl)
def ePa (c : Bool) (ls rs : List SCandidate) (out : List SPair) : Ext := Ext.of .normal paFTs (paFL c ls rs out) (paFT ls rs out) (by rfl)
theorem sh_rows {α : Type} (ty : Ty α) (l : List α) : (List.map ty.c l).map (renL sh) = List.map ty.c l := by
 have h : DataRows (l.map ty.c) := ty.data l
 have : (⟨0, true, List.map ty.c l⟩ : Blk).ren sh = ⟨0, true, List.map ty.c l⟩ := DataRows.ren (k := ⟨0, true, List.map ty.c l⟩) h sh
 have := congrArg Blk.rows this
 exact this
theorem bsMake (c : Bool) (ls rs : List SCandidate) (out : List SPair) : shB (ofL (xPa c ls rs out).bs) = ofL (paB c ls rs out) := by
 rw [shB_ofL]
 have : ((xPa c ls rs out).bs.map fun p => (sh p.1, p.2.ren sh)) = paB c ls rs out := by
  simp only [xPa, Ext.of, paFL, paFT, List.cons_append, List.nil_append, List.map_cons, List.map_nil, BT.of, Blk.ren, sh_rows]
  kernel_rfl
 rw [this]
theorem loopMake (c : Bool) (ls rs : List SCandidate) {r : List SPair} (h : pairsM c ls rs = some r) :
  TV Tryd.prog GG (.rangeFunc (.tmp 49) #[50] paAs paBd) ((xPa c ls rs []).D 154).st (fun e st => e = .normal ∧ Gst GG st ((ePa c ls rs r).D 154).st) := by
 have ht : (fun i => renV sh (((xPa c ls rs []).D 154).st.t i)) = tOf paTs := by
  have : ((xPa c ls rs []).D 154).st.t = tOf (xPa c ls rs []).ts := rfl
  rw [this, tOf_shift]
  have : ((xPa c ls rs []).ts.map fun p => (p.1, renV sh p.2)) = paTs := by kernel_rfl
  rw [this]
 have hb : Tryd.f25.body = some cIt := by kernel_rfl
 refine TV.rangeF (f := 25) (fi := Tryd.f25) (c := cIt) (first := [.ptr 1700061 0 0]) (caps := []) (R := fun e b => e = .normal ∧ b = ofL (paB c ls rs r)) ?_ Tryd.func25 hb (by kernel_rfl) (by kernel_rfl) ?_ (fun i => ?_) ?_ ?_
 ·show some ((fun i => renV sh (((xPa c ls rs []).D 154).st.t i)) 49) = _
  rw [ht]; rfl
 ·intro b k hk
  obtain ⟨q, h1, rfl, _⟩ := find_b (show ofL (xPa c ls rs []).bs b = some k from hk)
  show (((xPa c ls rs []).us).contains q.1 || uTop q.1) = true
  simp only [Ext.us, Bool.or_eq_true, List.contains_eq_mem, decide_eq_true_eq]
  exact .inl (List.mem_map.2 ⟨q, h1, rfl⟩)
 ·have := congrFun ht i
  rw [show renV sh (((xPa c ls rs []).D 154).st.t i) = tOf paTs i from this]
  exact tOf_ok (by rfl) i
 ·have hbb : shB ((xPa c ls rs []).D 154).st.b = ofL (paB c ls rs []) := bsMake c ls rs []
  rw [ht, hbb]
  have e : max Tryd.f25.ntmps ([V.ptr 1700061 0 0].length + 1 + ([] : List V).length) = 49 := by kernel_rfl
  rw [e]
  exact iterMake c ls rs h
 ·intro e b' ho
  obtain ⟨rfl, rfl⟩ := ho
  refine ⟨.inl rfl, ofL (xPa c ls rs r).bs, (bsMake c ls rs r).symm, ?_, rfl, ?_⟩
  ·show (stOf 154 (xPa c ls rs []).ts (xPa c ls rs r).bs (xPa c ls rs []).us).known
   refine ⟨fun i b hm => ?_, fun i k hk => ?_⟩
   ·have hm' : b ∈ refsV (tOf (xPa c ls rs []).ts i) := hm
    unfold tOf at hm'
    cases hf : (xPa c ls rs []).ts.find? (fun p => p.1 == i) with
    | none => rw [hf] at hm'; simp [refsV] at hm'
    | some p =>
     rw [hf] at hm'
     have all : ((xPa c ls rs []).ts.all fun p => (refsV p.2).all fun b => (xPa c ls rs []).us.contains b) = true := by rfl
     have := List.all_eq_true.1 (List.all_eq_true.1 all p (List.mem_of_find?_eq_some hf)) b hm'
     show ((xPa c ls rs []).us.contains b || uTop b) = true
     rw [this]; rfl
   ·obtain ⟨q, h1, rfl, rfl⟩ := find_b (show ofL (xPa c ls rs r).bs i = some k from hk)
    have husl : (xPa c ls rs r).us = (xPa c ls rs []).us := rfl
    refine ⟨?_, fun b hm => ?_⟩
    ·show ((xPa c ls rs []).us.contains q.1 || uTop q.1) = true
     rw [← husl]
     simp only [Ext.us, Bool.or_eq_true, List.contains_eq_mem, decide_eq_true_eq]
     exact .inl (List.mem_map.2 ⟨q, h1, rfl⟩)
    ·have : q ∈ paFL c ls rs r ++ (paFT ls rs r).map fun x => (x.id, x.k) := h1
     rcases List.mem_append.1 this with h2 | h2
     ·have all : ((paFL c ls rs r).all fun q => (refsL q.2.rows.flatten).all fun b => (xPa c ls rs []).us.contains b) = true := by rfl
      have := List.all_eq_true.1 (List.all_eq_true.1 all q h2) b hm
      show ((xPa c ls rs []).us.contains b || uTop b) = true
      rw [this]; rfl
     ·have hdat := bts_dat _ h2
      rw [hdat.refs] at hm; simp at hm
  ·show Gst GG (stOf 154 (xPa c ls rs []).ts (xPa c ls rs r).bs (xPa c ls rs []).us) _
   exact gst_to (ePa c ls rs r) (by rfl) rfl ⟨by rfl, by rfl⟩
noncomputable def subPairs (c : Bool) (ls rs : List SCandidate) : Sub Tryd.prog GG (List SPair) :=
 ⟨.rangeFunc (.tmp 49) #[50] paAs paBd, 154, xPa c ls rs [], pairsM c ls rs, ePa c ls rs, fun _ h => loopMake c ls rs h⟩
end Go.Proofs.YtioobnkmohikjaaDoor
namespace Go.Proofs.YtioobnkmohikjaaDoor
open Go Go.EV
set_option maxRecDepth 100000
open Classical
theorem iter_scan {σ ε : Type} {f : σ → Option (σ ⊕ ε)} (n : Nat) (hn : n ≤ 1000000) (g : Nat → σ) (r : ε) (h : ∀ k, k < n → f (g k) = some (.inl (g (k + 1)))) (hl : f (g n) = some (.inr r)) : iter f FUEL (g 0) = some r := by
 have key : ∀ m k, k ≤ n → n - k < m → iter f m (g k) = some r := by
  intro m
  induction m with
  | zero => intro k _ h; omega
  | succ m ih =>
   intro k hk hm
   have e1 : iter f (m + 1) (g k) = (match f (g k) with | none => none | some (.inl y) => iter f m y | some (.inr e) => some e) := rfl
   rw [e1]
   rcases Nat.lt_or_ge k n with h1 | h1
   ·rw [h k h1]; exact ih (k + 1) (by omega) (by omega)
   ·have : k = n := by omega
    subst this
    rw [hl]
 exact key FUEL 0 (Nat.zero_le _) (fuel (by omega))
theorem okPRIO1 (c : Bool) (ls rs : List SCandidate) (x : SPair) (h : InB ⟨c, ls, rs, []⟩ x) (hl : CandsOk ls) (hr : CandsOk rs) : SOk (s35_1 c ls rs x) (fun r => r = prio ⟨c, ls, rs, []⟩ x) := by
 show Ok (g35_1 c ls rs x) _
 unfold g35_1 prio
 have h1 := (h.locOk hl).2.2.1
 have h2 := (h.remOk hr).2.2.1
 refine Ok.row h.lc h.loc (Ok.row h.rc h.rem ?_)
 cases c with
 | true => exact Ok.bind (R := fun e => e = ((locC ⟨true, ls, rs, []⟩ x).fPriority, (remC ⟨true, ls, rs, []⟩ x).fPriority)) (Ok.brF rfl (Ok.done rfl)) fun e he => by subst he; exact Ok.call (okPP _ _ h1 h2) fun r hr => Ok.done (by rw [hr]; rfl)
 | false => exact Ok.bind (R := fun e => e = ((remC ⟨false, ls, rs, []⟩ x).fPriority, (locC ⟨false, ls, rs, []⟩ x).fPriority)) (Ok.brT rfl (Ok.done rfl)) fun e he => by subst he; exact Ok.call (okPP _ _ h2 h1) fun r hr => Ok.done (by rw [hr]; rfl)
def mkP (Z : SList) (i j : Nat) : SPair := ⟨(i : Int), (j : Int), prio Z ⟨(i : Int), (j : Int), 0, 0⟩, 0⟩
def FitAt (Z : SList) (i j : Nat) : Prop := ∃ x w, Z.fLocals[i]? = some x ∧ Z.fRemotes[j]? = some w ∧ FitP x w
noncomputable def rowL (Z : SList) (i : Nat) : Nat → List SPair
 | 0 => []
 | j + 1 => rowL Z i j ++ (if FitAt Z i j then [mkP Z i j] else [])
noncomputable def fitsL (Z : SList) : Nat → List SPair
 | 0 => []
 | i + 1 => fitsL Z i ++ rowL Z i Z.fRemotes.length
theorem rowL_mem {Z : SList} {i : Nat} : ∀ {n : Nat} {x : SPair}, x ∈ rowL Z i n ↔ ∃ j, j < n ∧ FitAt Z i j ∧ x = mkP Z i j
 | 0, x => by simp [rowL]
 | n + 1, x => by
  simp only [rowL, List.mem_append, rowL_mem (n := n)]
  constructor
  ·rintro (⟨j, h1, h2, h3⟩ | h)
   ·exact ⟨j, by omega, h2, h3⟩
   ·split at h
    ·exact ⟨n, by omega, by assumption, by simpa using h⟩
    ·simp at h
  ·rintro ⟨j, h1, h2, h3⟩
   by_cases e : j < n
   ·exact .inl ⟨j, e, h2, h3⟩
   ·have : j = n := by omega
    subst this
    exact .inr (by rw [if_pos h2]; simp [h3])
theorem fitsL_mem {Z : SList} : ∀ {n : Nat} {x : SPair}, x ∈ fitsL Z n ↔ ∃ i j, i < n ∧ j < Z.fRemotes.length ∧ FitAt Z i j ∧ x = mkP Z i j
 | 0, x => by simp [fitsL]
 | n + 1, x => by
  simp only [fitsL, List.mem_append, fitsL_mem (n := n), rowL_mem]
  constructor
  ·rintro (⟨i, j, h1, h2⟩ | ⟨j, h1, h2⟩)
   ·exact ⟨i, j, by omega, h2⟩
   ·exact ⟨n, j, by omega, h1, h2⟩
  ·rintro ⟨i, j, h1, h2⟩
   by_cases e : i < n
   ·exact .inl ⟨i, j, e, h2⟩
   ·have : i = n := by omega
    subst this
    exact .inr ⟨j, h2⟩
theorem rowL_ix {Z : SList} {i : Nat} : ∀ n, (rowL Z i n).Pairwise ix
 | 0 => List.Pairwise.nil
 | n + 1 => by
  simp only [rowL]
  refine List.pairwise_append.2 ⟨rowL_ix n, by split; exact List.pairwise_singleton _ _; exact List.Pairwise.nil, fun a ha b hb => ?_⟩
  obtain ⟨j, h1, _, rfl⟩ := rowL_mem.1 ha
  split at hb
  ·simp only [List.mem_singleton] at hb; subst hb
   exact .inr ⟨rfl, by show (j : Int) < (n : Int); omega⟩
  ·simp at hb
theorem fitsL_ix {Z : SList} : ∀ n, (fitsL Z n).Pairwise ix
 | 0 => List.Pairwise.nil
 | n + 1 => by
  simp only [fitsL]
  refine List.pairwise_append.2 ⟨fitsL_ix n, rowL_ix _, fun a ha b hb => ?_⟩
  obtain ⟨i, j, h1, _, _, rfl⟩ := fitsL_mem.1 ha
  obtain ⟨k, _, _, rfl⟩ := rowL_mem.1 hb
  exact .inl (by show (i : Int) < (n : Int); omega)
theorem rowL_len {Z : SList} {i : Nat} : ∀ n, (rowL Z i n).length ≤ n
 | 0 => Nat.le_refl _
 | n + 1 => by
  have := rowL_len (Z := Z) (i := i) n
  simp only [rowL, List.length_append]
  split <;> simp <;> omega
theorem fitsL_len {Z : SList} : ∀ n, (fitsL Z n).length ≤ n * Z.fRemotes.length
 | 0 => Nat.zero_le _
 | n + 1 => by
  have := fitsL_len (Z := Z) n
  have := rowL_len (Z := Z) (i := n) Z.fRemotes.length
  simp only [fitsL, List.length_append, Nat.succ_mul]
  omega
theorem inStep_eq (c : Bool) (ls rs : List SCandidate) (hl : CandsOk ls) (hr : CandsOk rs) (h1 : rs.length ≤ 1000) (i k : Nat) (hi : i < ls.length) (hk : k < rs.length) (a : SCandidate) (ha : ls[i]? = some a) (out : List SPair) (ho : out.length ≤ 1000000) :
  inStep c ls rs (i : Int) a ((k : Int), out) = some (.inl (((k + 1 : Nat) : Int), out ++ (if FitAt ⟨c, ls, rs, []⟩ i k then [mkP ⟨c, ls, rs, []⟩ i k] else []))) := by
 obtain ⟨b, hb1, hb2⟩ := get_lt hk
 have hI : InB ⟨c, ls, rs, []⟩ (SPair.mk (i : Int) (k : Int) 0 0) := ⟨⟨by simp, by simp; omega⟩, ⟨by simp, by simp; omega⟩⟩
 have e5 : Ok (gR5 rs (k : Int)) (fun r => r = b) := by
  unfold gR5
  exact Ok.chk (inP hk) (Ok.row rfl (by rw [Nat.zero_add]; exact hb1) (Ok.done rfl))
 have e7 : Ok (gR7 c ls rs (i : Int) (k : Int)) (fun r => r = prio ⟨c, ls, rs, []⟩ (SPair.mk (i : Int) (k : Int) 0 0)) := by
  unfold gR7
  exact Ok.view (okPRIO1 c ls rs _ hI hl hr) fun r hr => Ok.done hr
 have e8 : Ok (gR8 a b) (fun f => (f = true ↔ FitP a b)) := by
  unfold gR8
  exact Ok.call (okFIT a b) fun r hr => Ok.br (fun h => Ok.done ⟨fun _ => hr.1 h, fun _ => rfl⟩) (fun h => Ok.done ⟨fun h2 => by simp at h2, fun h2 => by rw [hr.2 h2] at h; simp at h⟩)
 have e9 : ∀ x, Ok (gRd out x) (fun _ => True) := fun x => by
  unfold gRd
  exact Ok.app (by simp; omega) (Ok.done trivial)
 obtain ⟨b', r5, rfl⟩ := e5
 obtain ⟨p', r7, rfl⟩ := e7
 obtain ⟨f, r8, hf⟩ := e8
 have hfit : FitAt ⟨c, ls, rs, []⟩ i k ↔ FitP a b' := by
  constructor
  ·rintro ⟨x, w, h1, h2, h3⟩
   have h1' : ls[i]? = some x := h1
   have h2' : rs[k]? = some w := h2
   rw [ha] at h1'; rw [hb2] at h2'
   obtain rfl := Option.some.inj h1'
   obtain rfl := Option.some.inj h2'
   exact h3
  ·exact fun h => ⟨a, b', ha, hb2, h⟩
 obtain ⟨_, r9, _⟩ := e9 (SPair.mk (i : Int) (k : Int) (prio ⟨c, ls, rs, []⟩ (SPair.mk (i : Int) (k : Int) 0 0)) 0)
 have e1 : wi64 ((k : Int) + 1) = ((k + 1 : Nat) : Int) := wi64_nat hk (by omega)
 unfold inStep
 simp only [r5, r7, r8, e1]
 rw [show decide ((k : Int) < (rs.length : Int)) = true from by simp; omega, cond_true]
 cases f with
 | true =>
  rw [if_pos (hfit.2 (hf.1 rfl))]
  simp only [cond_true, r9]
  rfl
 | false =>
  rw [if_neg (fun h => by have := hf.2 (hfit.1 h); simp at this)]
  simp
theorem inM_eq (c : Bool) (ls rs : List SCandidate) (hl : CandsOk ls) (hr : CandsOk rs) (h1 : rs.length ≤ 1000) (i : Nat) (hi : i < ls.length) (a : SCandidate) (ha : ls[i]? = some a) (out : List SPair) (ho : out.length ≤ 900000) :
  inM c ls rs (i : Int) a out = some (out ++ rowL ⟨c, ls, rs, []⟩ i rs.length) := by
 unfold inM
 have := iter_scan (f := inStep c ls rs (i : Int) a) rs.length (by omega) (fun k => ((k : Int), out ++ rowL ⟨c, ls, rs, []⟩ i k)) (out ++ rowL ⟨c, ls, rs, []⟩ i rs.length) (fun k hk => ?_) ?_
 ·simpa [rowL] using this
 ·have := rowL_len (Z := ⟨c, ls, rs, []⟩) (i := i) k
  rw [inStep_eq c ls rs hl hr h1 i k hi hk a ha _ (by simp; omega)]
  simp [rowL]
 ·unfold inStep
  simp
theorem pairsM_eq (c : Bool) (ls rs : List SCandidate) (hl : CandsOk ls) (hr : CandsOk rs) (h0 : ls.length ≤ 100) (h1 : rs.length ≤ 100) : pairsM c ls rs = some (fitsL ⟨c, ls, rs, []⟩ ls.length) := by
 unfold pairsM
 refine iter_scan (f := outStep c ls rs) ls.length (by omega) (fun k => ((k : Int), fitsL ⟨c, ls, rs, []⟩ k)) _ (fun k hk => ?_) ?_
 ·obtain ⟨a, ha1, ha2⟩ := get_lt hk
  have e2 : Ok (gR2 ls (k : Int)) (fun r => r = a) := by
   unfold gR2
   exact Ok.chk (inP hk) (Ok.row rfl (by rw [Nat.zero_add]; exact ha1) (Ok.done rfl))
  obtain ⟨a', r2, rfl⟩ := e2
  have hlen := fitsL_len (Z := ⟨c, ls, rs, []⟩) k
  have hle : k * rs.length ≤ 100 * 100 := Nat.mul_le_mul (by omega) h1
  have hlen2 : (fitsL ⟨c, ls, rs, []⟩ k).length ≤ k * rs.length := hlen
  have r3 := inM_eq c ls rs hl hr (by omega) k hk a' ha2 (fitsL ⟨c, ls, rs, []⟩ k) (by omega)
  unfold outStep
  simp only [r2, r3, wi64_nat hk (by omega : ls.length ≤ 1000000)]
  rw [show decide ((k : Int) < (ls.length : Int)) = true from by simp; omega, cond_true]
  rfl
 ·unfold outStep
  simp
end Go.Proofs.YtioobnkmohikjaaDoor
namespace Go.Proofs.YtioobnkmohikjaaDoor
open Go Go.EV
set_option maxRecDepth 100000
noncomputable def cMk : Code := cB (cR (Tryd.f8.body.getD .skip))
def cWt : Code → Code
 | .seq _ (.seq _ (.seq _ (.seq _ (.seq _ (.seq _ (.seq _ (.seq _ (.seq _ (.seq _ (.seq _ (.seq c _))))))))))) => c
 | _ => .skip
noncomputable def wCode : Code := cWt cMk
noncomputable def wOps29 : Array Oper := rOps (cL wCode)
noncomputable def wLoop : Code := cB (cB (cR wCode))
noncomputable def wOps30 : Array Oper := rOps (cL wLoop)
noncomputable def wBody : Code := cB (cR (cR wLoop))
noncomputable def wOps31 : Array Oper := rOps (cL wBody)
noncomputable def wOps32 : Array Oper := rOps (cR wBody)
theorem eWt : wCode = .seq (.region 29 wOps29 false) (.block 6 (.loop (.seq (.region 30 wOps30 false) (.seq (.cond (.tmp 139) .skip (.exit 6)) (.block 7 (.seq (.region 31 wOps31 false) (.region 32 wOps32 false))))))) := by kernel_rfl
def wTs : List (Nat × V) := [(6, .ptr 6 0 0), (7, .int .i64 0), (8, .ptr 700061 0 0)]
def wL (c : Bool) (ls rs : List SCandidate) (m : Nat) : List (Nat × Blk) := [(6, ⟨4, true, [[.bool false, .nilsl, .nilsl, .nilsl]]⟩), (700061, ⟨4, true, [[.bool c, .ref 700062 0 ls.length, .ref 700063 0 rs.length, .ref 700064 0 m]]⟩)]
def wT (ls rs : List SCandidate) (s : List SPair) : List BT := [BT.of 700062 tySCandidate 8 ls true, BT.of 700063 tySCandidate 8 rs true, BT.of 700064 tySPair 4 s true]
section
variable (c : Bool) (ls rs : List SCandidate) (m : Nat)
def eW (s : List SPair) : Ext := Ext.of .normal wTs (wL c ls rs m) (wT ls rs s) (by rfl)
def xW (l : List SEnt80) (s : List SPair) : Ext := Ext.of .normal (wTs ++ [(14, .mp 700065)]) (wL c ls rs m) (wT ls rs s ++ [BT.of 700065 tySEnt80 1114370 l true]) (by rfl)
def xWi (i : Int) (s : List SPair) : Ext := Ext.of .normal (wTs ++ [(21, .int .i64 i)]) (wL c ls rs m) (wT ls rs s) (by rfl)
def gW (i : Int) (s : List SPair) : TT (List SPair) :=
 .chk 32007 (decide (0 ≤ i) && decide (i < (m : Int))) (.row 32009 tySPair s (0 + i.toNat) true fun x =>
  .re 32009 (ReW.put 700064 4 tySPair s (0 + i.toNat) (SPair.mk x.fLocal x.fRemote x.fPriority 1)) (.done (s.set (0 + i.toNat) (SPair.mk x.fLocal x.fRemote x.fPriority 1))))
theorem kW (i : Int) (s : List SPair) : PieceOps Tryd.prog GG [6, 7, 8] 154 32 wOps32 9 (xWi c ls rs m i s) (gW m i s) (fun s' => eW c ls rs m s') := by unfold PieceOps; kernel_rfl
end
def wSet (m : Nat) (i : Int) (s : List SPair) : Option (List SPair) :=
 bif decide (0 ≤ i) && decide (i < (m : Int)) then (match s[i.toNat]? with | some x => some (s.set i.toNat (SPair.mk x.fLocal x.fRemote x.fPriority 1)) | none => none) else none
theorem gW_run (m : Nat) (i : Int) (s : List SPair) : (gW m i s).run = wSet m i s := by
 unfold gW wSet
 simp only [T.run, Nat.zero_add, cond_true]
 cases (decide (0 ≤ i) && decide (i < (m : Int))) with
 | false => rfl
 | true => simp only [cond_true]; cases s[i.toNat]? <;> rfl
theorem wSet_comm (m : Nat) (i j : Int) (s : List SPair) : (wSet m i s).bind (wSet m j) = (wSet m j s).bind (wSet m i) := by
 unfold wSet
 cases hi : (decide (0 ≤ i) && decide (i < (m : Int))) <;> cases hj : (decide (0 ≤ j) && decide (j < (m : Int)))
 ·rfl
 ·simp only [cond_true, cond_false]
  cases s[j.toNat]? <;> rfl
 ·simp only [cond_true, cond_false]
  cases s[i.toNat]? <;> rfl
 ·simp only [cond_true]
  by_cases e : i.toNat = j.toNat
  ·rw [e]
  ·cases h1 : s[i.toNat]? with
   | none =>
    cases h2 : s[j.toNat]? with
    | none => rfl
    | some y => simp only [Option.bind_none, Option.bind_some, List.getElem?_set_ne (Ne.symm e), h1]
   | some x =>
    cases h2 : s[j.toNat]? with
    | none => simp only [Option.bind_none, Option.bind_some, List.getElem?_set_ne e, h2]
    | some y => simp only [Option.bind_some, List.getElem?_set_ne e, List.getElem?_set_ne (Ne.symm e), h1, h2, Option.some.injEq]; exact List.set_comm _ _ e
def wAll (m : Nat) (l : List SEnt80) (s : List SPair) : Option (List SPair) := foldB (fun x s => wSet m x.fv s) l s
theorem loopWait (c : Bool) (ls rs : List SCandidate) (m : Nat) (l : List SEnt80) (s0 : List SPair) {r : List SPair} (h : wAll m l s0 = some r) :
  TV Tryd.prog GG wCode ((xW c ls rs m l s0).D 154).st (fun e st => e = .normal ∧ Gst GG st ((eW c ls rs m r).D 154).st) := by
 rw [eWt]
 have key := TV.rangeMap (P := Tryd.prog) (G := GG) (ty := tySEnt80) (z := 1114370) (b := 700065) (mt := 80) (kt := 81) (et := 3) (n := 154) (ex := true) (l := l) (kd := .i64) (fv := fun x => x.fv) (i29 := 29) (i30 := 30) (i31 := 31) (i32 := 32) (B := 6) (B2 := 7) (ops29 := wOps29) (ops30 := wOps30) (ops31 := wOps31) (ops32 := wOps32)
  (tm := 14) (t0 := 136) (it := 137) (tn := 138) (tb := 139) (te := 140) (tw := 141) (tv := 21) (st := ((xW c ls rs m l s0).D 154).st) (S := fun s => ((eW c ls rs m s).D 154).st) (body := fun x s => wSet m x.fv s) (s0 := s0) (r := r)
  (by kernel_rfl) (by kernel_rfl) (by kernel_rfl) (by kernel_rfl) (by decide) (by decide) (by kernel_rfl) ⟨by decide, by decide⟩ (by decide) rfl rfl rfl (fun x => rfl) (fun s => ⟨rfl, rfl, rfl, rfl, rfl, rfl, rfl⟩)
  (gst_to (eW c ls rs m s0) (by rfl) rfl ⟨by rfl, by rfl⟩) (fun x s s' hs => ?_) (fun x y s => wSet_comm m x.fv y.fv s) h
 ·exact key.mono fun e st hq => ⟨hq.1, by rw [hq.2]; exact Gst.same _⟩
 ·have e : ((eW c ls rs m s).D 154).st.setT 21 (.int .i64 x.fv) = ((xWi c ls rs m x.fv s).D 154).st := by
   refine St.ext' rfl fun l => ?_
   cases l with
   | b j => exact ⟨rfl, rfl⟩
   | t j =>
    show (if j = 21 then V.int .i64 x.fv else tOf wTs j) = tOf (wTs ++ [(21, .int .i64 x.fv)]) j
    unfold tOf
    by_cases hj : j = 21
    ·subst hj; rfl
    ·rw [if_neg hj, List.find?_append]
     cases wTs.find? (fun p => p.1 == j) with
     | some p => rfl
     | none =>
      have : ((21 : Nat) == j) = false := by simpa using fun e => hj e.symm
      simp [this]
  have := (kW c ls rs m x.fv s).tv mixed (r := s') (by rw [gW_run]; exact hs) (by rfl)
  rw [← e] at this
  exact this
noncomputable def subWait (c : Bool) (ls rs : List SCandidate) (m : Nat) (l : List SEnt80) (s : List SPair) : Sub Tryd.prog GG (List SPair) :=
 ⟨wCode, 154, xW c ls rs m l s, wAll m l s, eW c ls rs m, fun _ h => loopWait c ls rs m l s h⟩
end Go.Proofs.YtioobnkmohikjaaDoor
namespace Go.Proofs.YtioobnkmohikjaaDoor
open Go Go.EV
set_option maxRecDepth 100000
structure MapOf {α κ υ : Type} (fk : α → κ) (fv : α → υ) (l : List α) (V : κ → υ → Prop) : Prop where
 nodup : (l.map fk).Nodup
 val : ∀ z v, V z v ↔ ∃ e, e ∈ l ∧ fk e = z ∧ fv e = v
theorem MapOf.nil {α κ υ : Type} (fk : α → κ) (fv : α → υ) : MapOf fk fv [] (fun _ _ => False) := ⟨List.nodup_nil, fun z v => by simp⟩
theorem MapOf.find {α κ υ : Type} {fk : α → κ} {fv : α → υ} {l : List α} {V : κ → υ → Prop} (h : MapOf fk fv l V) {p : α → Bool} {x : κ} (hp : ∀ e, p e = true ↔ x = fk e) (d : υ) :
  ((l.findIdx? p).isSome = true ↔ ∃ v, V x v) ∧ (∀ v, V x v → mlook l p fv d = v) := by
 cases hf : l.findIdx? p with
 | none =>
  rw [List.findIdx?_eq_none_iff] at hf
  have no : ∀ v, ¬ V x v := fun v hv => by
   obtain ⟨e, h1, h2, _⟩ := (h.val x v).1 hv
   have := hf e h1
   rw [(hp e).2 h2.symm] at this
   simp at this
  exact ⟨⟨fun h => by simp at h, fun ⟨v, hv⟩ => absurd hv (no v)⟩, fun v hv => absurd hv (no v)⟩
 | some j =>
  obtain ⟨h1, h2, h3⟩ := List.findIdx?_eq_some_iff_getElem.1 hf
  have hk := (hp _).1 h2
  refine ⟨⟨fun _ => ⟨fv l[j], (h.val x _).2 ⟨l[j], List.getElem_mem h1, hk.symm, rfl⟩⟩, fun _ => rfl⟩, fun v hv => ?_⟩
  obtain ⟨e, e1, e2, e3⟩ := (h.val x v).1 hv
  obtain ⟨i, hi⟩ := List.mem_iff_getElem?.1 e1
  have hil := (List.getElem?_eq_some_iff.1 hi).1
  have hie := (List.getElem?_eq_some_iff.1 hi).2
  have hij : i = j := by
   have hn := h.nodup
   have a1 : (l.map fk)[i]'(by simpa using hil) = x := by rw [List.getElem_map, hie]; exact e2
   have a2 : (l.map fk)[j]'(by simpa using h1) = x := by rw [List.getElem_map]; exact hk.symm
   exact (List.getElem_inj hn).1 (a1.trans a2.symm)
  subst hij
  unfold mlook
  rw [hf]
  simp only [List.getElem?_eq_getElem h1]
  rw [hie]; exact e3
theorem MapOf.put {α κ υ : Type} {fk : α → κ} {fv : α → υ} {l : List α} {V : κ → υ → Prop} (h : MapOf fk fv l V) {p : α → Bool} {x : κ} (hp : ∀ e, p e = true ↔ x = fk e) {y : α} (hy : fk y = x) :
  MapOf fk fv (mput l p y) (fun z v => (z = x ∧ v = fv y) ∨ (z ≠ x ∧ V z v)) := by
 unfold mput
 cases hf : l.findIdx? p with
 | none =>
  rw [List.findIdx?_eq_none_iff] at hf
  have no : ∀ e, e ∈ l → fk e ≠ x := fun e he hx => by
   have := hf e he
   rw [(hp e).2 hx.symm] at this
   simp at this
  refine ⟨?_, fun z v => ?_⟩
  ·show ((l ++ [y]).map fk).Nodup
   rw [List.map_append]
   refine nodup_app.2 ⟨h.nodup, fun hm => ?_⟩
   obtain ⟨e, e1, e2⟩ := List.mem_map.1 hm
   exact no e e1 (by rw [e2, hy])
  ·show _ ↔ ∃ e, e ∈ l ++ [y] ∧ fk e = z ∧ fv e = v
   constructor
   ·rintro (⟨rfl, rfl⟩ | ⟨h1, h2⟩)
    ·exact ⟨y, by simp, hy, rfl⟩
    ·obtain ⟨e, e1, e2⟩ := (h.val z v).1 h2
     exact ⟨e, by simp [e1], e2⟩
   ·rintro ⟨e, e1, e2, e3⟩
    rcases List.mem_append.1 e1 with e1 | e1
    ·exact .inr ⟨fun hz => no e e1 (by rw [e2, hz]), (h.val z v).2 ⟨e, e1, e2, e3⟩⟩
    ·simp only [List.mem_singleton] at e1; subst e1
     exact .inl ⟨by rw [← e2, hy], e3.symm⟩
 | some j =>
  obtain ⟨h1, h2, _⟩ := List.findIdx?_eq_some_iff_getElem.1 hf
  have hk := (hp _).1 h2
  have hmap : (l.set j y).map fk = l.map fk := by
   refine List.ext_getElem? fun i => ?_
   rw [List.getElem?_map, List.getElem?_map]
   by_cases e : j = i
   ·subst e
    rw [List.getElem?_set_self h1, List.getElem?_eq_getElem h1, Option.map_some, Option.map_some, hy, hk]
   ·rw [List.getElem?_set_ne e]
  refine ⟨by show ((l.set j y).map fk).Nodup; rw [hmap]; exact h.nodup, fun z v => ?_⟩
  show _ ↔ ∃ e, e ∈ l.set j y ∧ fk e = z ∧ fv e = v
  constructor
  ·rintro (⟨rfl, rfl⟩ | ⟨q1, q2⟩)
   ·exact ⟨y, List.mem_iff_getElem?.2 ⟨j, List.getElem?_set_self h1⟩, hy, rfl⟩
   ·obtain ⟨e, e1, e2, e3⟩ := (h.val z v).1 q2
    obtain ⟨i, hi⟩ := List.mem_iff_getElem?.1 e1
    refine ⟨e, List.mem_iff_getElem?.2 ⟨i, ?_⟩, e2, e3⟩
    have : j ≠ i := fun hji => by
     subst hji
     rw [List.getElem?_eq_getElem h1] at hi
     obtain rfl := Option.some.inj hi
     exact q1 (e2.symm.trans hk.symm)
    rw [List.getElem?_set_ne this]; exact hi
  ·rintro ⟨e, e1, e2, e3⟩
   obtain ⟨i, hi⟩ := List.mem_iff_getElem?.1 e1
   by_cases hji : j = i
   ·subst hji
    rw [List.getElem?_set_self h1] at hi
    obtain rfl := Option.some.inj hi
    exact .inl ⟨e2.symm.trans hy, e3.symm⟩
   ·rw [List.getElem?_set_ne hji] at hi
    refine .inr ⟨fun hz => hji ?_, (h.val z v).2 ⟨e, List.mem_of_getElem? hi, e2, e3⟩⟩
    have hil := (List.getElem?_eq_some_iff.1 hi).1
    have hie := (List.getElem?_eq_some_iff.1 hi).2
    have a1 : (l.map fk)[i]'(by simpa using hil) = x := by rw [List.getElem_map, hie, e2, hz]
    have a2 : (l.map fk)[j]'(by simpa using h1) = x := by rw [List.getElem_map]; exact hk.symm
    exact ((List.getElem_inj h.nodup).1 (a1.trans a2.symm)).symm
end Go.Proofs.YtioobnkmohikjaaDoor
namespace Go.Proofs.YtioobnkmohikjaaDoor
open Go Go.EV
set_option maxRecDepth 100000
open Classical
theorem wSet_eq {m : Nat} {i : Nat} {s : List SPair} (hs : s.length = m) (hi : i < m) : ∃ x, s[i]? = some x ∧ wSet m (i : Int) s = some (s.set i ⟨x.fLocal, x.fRemote, x.fPriority, 1⟩) := by
 refine ⟨s[i]'(by omega), List.getElem?_eq_getElem (by omega), ?_⟩
 unfold wSet
 rw [show (decide (0 ≤ (i : Int)) && decide ((i : Int) < (m : Int))) = true from by simp; omega, cond_true, Int.toNat_natCast, List.getElem?_eq_getElem (by omega)]
theorem wAll_eq {m : Nat} : ∀ (l : List SEnt80) (s : List SPair), s.length = m → (∀ e, e ∈ l → ∃ i : Nat, e.fv = (i : Int) ∧ i < m) →
  ∃ r, wAll m l s = some r ∧ r.length = m ∧ ∀ (i : Nat) (x : SPair), s[i]? = some x → r[i]? = some (if ∃ e, e ∈ l ∧ e.fv = (i : Int) then ⟨x.fLocal, x.fRemote, x.fPriority, 1⟩ else x)
 | [], s, hs, _ => ⟨s, rfl, hs, fun i x h => by simpa using h⟩
 | e :: l, s, hs, h => by
  obtain ⟨k, e1, e2⟩ := h e (by simp)
  obtain ⟨y, y1, y2⟩ := wSet_eq hs e2
  obtain ⟨r, r1, r2, r3⟩ := wAll_eq l (s.set k ⟨y.fLocal, y.fRemote, y.fPriority, 1⟩) (by rw [List.length_set]; exact hs) (fun e' he => h e' (by simp [he]))
  refine ⟨r, ?_, r2, fun i x hx => ?_⟩
  ·show foldB (fun x s => wSet m x.fv s) (e :: l) s = some r
   unfold foldB
   rw [e1, y2]
   exact r1
  ·by_cases hik : k = i
   ·subst hik
    rw [y1] at hx
    obtain rfl := Option.some.inj hx
    have := r3 k ⟨y.fLocal, y.fRemote, y.fPriority, 1⟩ (List.getElem?_set_self (by omega))
    rw [this, if_pos (⟨e, by simp, e1⟩ : ∃ e', e' ∈ e :: l ∧ e'.fv = (k : Int))]
    split <;> rfl
   ·have := r3 i x (by rw [List.getElem?_set_ne hik]; exact hx)
    rw [this]
    congr 1
    have : (∃ e', e' ∈ l ∧ e'.fv = (i : Int)) ↔ (∃ e', e' ∈ e :: l ∧ e'.fv = (i : Int)) := by
     constructor
     ·rintro ⟨e', q1, q2⟩; exact ⟨e', by simp [q1], q2⟩
     ·rintro ⟨e', q1, q2⟩
      rcases List.mem_cons.1 q1 with rfl | q1
      ·rw [e1] at q2; omega
      ·exact ⟨e', q1, q2⟩
    simp only [this]
end Go.Proofs.YtioobnkmohikjaaDoor
namespace Go.Proofs.YtioobnkmohikjaaDoor
open Go Go.EV
set_option maxRecDepth 100000
open Classical
theorem Ok.sub {P : Program} {G : Nat → Option (List V)} {ρ : Type} {Q : ρ → Prop} {ε : Type} {S : Sub P G ε} {k : ε → T P G ρ} {r : ε} (hr : S.o = some r) (h : Ok (k r) Q) : Ok (.sub S k) Q := by
 obtain ⟨x, e, hq⟩ := h
 exact ⟨x, by simp only [T.run, hr]; exact e, hq⟩
def LikeBefore (Z : SList) (L : List SPair) (k : Nat) (x : SPair) : Prop := ∃ j w, j < k ∧ L[j]? = some w ∧ likeK Z w = likeK Z x
noncomputable def pruneL (Z : SList) (L : List SPair) : Nat → List SPair
 | 0 => []
 | k + 1 => match L[k]? with
  | some x => if LikeBefore Z L k x ∨ 36 ≤ (pruneL Z L k).length then pruneL Z L k else pruneL Z L k ++ [x]
  | none => pruneL Z L k
def compK (Z : SList) (x : SPair) : Int := (locC Z x).fComponent
def FirstW (Z : SList) (M : List SPair) (i : Nat) (x : SPair) : Prop := ∀ j y, M[j]? = some y → foundK Z y = foundK Z x → ¬ (compK Z y < compK Z x ∨ (compK Z y = compK Z x ∧ j < i))
def WokeL (Z : SList) (M ps : List SPair) : Prop := ps.length = M.length ∧ ∀ i x, M[i]? = some x → ps[i]? = some (if FirstW Z M i x then ⟨x.fLocal, x.fRemote, x.fPriority, 1⟩ else x)
def MadeP (Z : SList) (ps : List SPair) : Prop := ∃ S, Sorts bef (fitsL Z Z.fLocals.length) S ∧ WokeL Z (pruneL Z S S.length) ps
def MakeR (l r : List SCandidate) (c : Bool) (e : SList × Int) : Prop :=
 if 12 < l.length ∨ 12 < r.length then e = (⟨false, [], [], []⟩, 3) else if ¬ (CandsOk l ∧ CandsOk r) then e = (⟨false, [], [], []⟩, 90) else ∃ ps, e = (⟨c, l, r, ps⟩, 0) ∧ MadeP ⟨c, l, r, []⟩ ps
theorem pruneL_le (Z : SList) (L : List SPair) : ∀ k, (pruneL Z L k).length ≤ 36
 | 0 => Nat.zero_le _
 | k + 1 => by
  have ih := pruneL_le Z L k
  unfold pruneL
  split
  ·split
   ·exact ih
   ·rename_i h; rw [List.length_append]; simp only [List.length_cons, List.length_nil]
    have : ¬ 36 ≤ (pruneL Z L k).length := fun h2 => h (.inr h2)
    omega
  ·exact ih
theorem pruneL_stay {Z : SList} {L : List SPair} {k : Nat} (h : (pruneL Z L k).length = 36) : ∀ n, k ≤ n → pruneL Z L n = pruneL Z L k := by
  intro n hn
  induction n with
  | zero => have : k = 0 := by omega
            rw [this]
  | succ n ih =>
    rcases Nat.lt_or_ge k (n + 1) with h1 | h1
    · have ih' := ih (by omega)
      rw [show pruneL Z L (n + 1) = (match L[n]? with
        | some x => if LikeBefore Z L n x ∨ 36 ≤ (pruneL Z L n).length then pruneL Z L n else pruneL Z L n ++ [x]
        | none => pruneL Z L n) from rfl, ih']
      split
      · rw [if_pos (.inr (by omega))]
      · rfl
    · have : k = n + 1 := by omega
      rw [this]
theorem pruneL_mem {Z : SList} {L : List SPair} : ∀ {k : Nat} {x : SPair}, x ∈ pruneL Z L k → x ∈ L
 | 0, x, h => by simp [pruneL] at h
 | k + 1, x, h => by
  unfold pruneL at h
  split at h
  ·rename_i y hy
   split at h
   ·exact pruneL_mem h
   ·rcases List.mem_append.1 h with h | h
    ·exact pruneL_mem h
    ·simp only [List.mem_singleton] at h; subst h; exact List.mem_of_getElem? hy
  ·exact pruneL_mem h
end Go.Proofs.YtioobnkmohikjaaDoor
namespace Go.Proofs.YtioobnkmohikjaaDoor
open Go Go.EV
set_option maxRecDepth 100000
open Classical
theorem pruneL_step {Z : SList} {L : List SPair} {k : Nat} {x : SPair} (h : L[k]? = some x) : pruneL Z L (k + 1) = if LikeBefore Z L k x ∨ 36 ≤ (pruneL Z L k).length then pruneL Z L k else pruneL Z L k ++ [x] := by
 rw [show pruneL Z L (k + 1) = (match L[k]? with
  | some x => if LikeBefore Z L k x ∨ 36 ≤ (pruneL Z L k).length then pruneL Z L k else pruneL Z L k ++ [x]
  | none => pruneL Z L k) from rfl, h]
theorem pruneL_none {Z : SList} {L : List SPair} {k : Nat} (h : L[k]? = none) : pruneL Z L (k + 1) = pruneL Z L k := by
 rw [show pruneL Z L (k + 1) = (match L[k]? with
  | some x => if LikeBefore Z L k x ∨ 36 ≤ (pruneL Z L k).length then pruneL Z L k else pruneL Z L k ++ [x]
  | none => pruneL Z L k) from rfl, h]
theorem pruneL_sub {Z : SList} {L : List SPair} : ∀ k, (pruneL Z L k).Sublist (L.take k)
 | 0 => List.Sublist.slnil
 | k + 1 => by
  have ih := pruneL_sub (Z := Z) (L := L) k
  rw [List.take_add_one]
  cases h : L[k]? with
  | none => rw [pruneL_none h]; simpa using ih
  | some x =>
   rw [pruneL_step h]
   split
   ·exact ih.trans (List.sublist_append_left _ _)
   ·exact ih.append (List.Sublist.refl _)
theorem pruneL_pw {Z : SList} {L : List SPair} {R : SPair → SPair → Prop} (h : L.Pairwise R) (k : Nat) : (pruneL Z L k).Pairwise R := (h.sublist (List.take_sublist k L)).sublist (pruneL_sub k)
theorem pruneL_at {Z : SList} {L : List SPair} {k : Nat} {x : SPair} (h : x ∈ pruneL Z L k) : ∃ j, j < k ∧ L[j]? = some x := by
 obtain ⟨j, hj, hx⟩ := mem_take_at ((pruneL_sub k).subset h)
 exact ⟨j, hj, hx⟩
theorem pruneL_nodup {Z : SList} {L : List SPair} : ∀ k, ((pruneL Z L k).map (likeK Z)).Nodup
 | 0 => List.nodup_nil
 | k + 1 => by
  have ih := pruneL_nodup (Z := Z) (L := L) k
  cases h : L[k]? with
  | none => rw [pruneL_none h]; exact ih
  | some x =>
   rw [pruneL_step h]
   split
   ·exact ih
   ·rename_i hn
    rw [List.map_append]
    refine nodup_app.2 ⟨ih, fun hm => ?_⟩
    obtain ⟨y, h1, h2⟩ := List.mem_map.1 hm
    obtain ⟨j, h3, h4⟩ := pruneL_at h1
    exact hn (.inl ⟨j, y, h3, h4, h2⟩)
theorem pruneL_all {Z : SList} {L : List SPair} (hp : L.Pairwise bef) : ∀ n, (pruneL Z L n).length < 36 → ∀ j x, j < n → L[j]? = some x → ∃ y, y ∈ pruneL Z L n ∧ likeK Z y = likeK Z x ∧ (y = x ∨ bef y x)
 | 0, _, j, x, hj, _ => by omega
 | n + 1, hlt, j, x, hj, hx => by
  cases h : L[n]? with
  | none =>
   have : j < n := by
    rcases Nat.lt_or_ge j n with h1 | h1
    ·exact h1
    ·have : j = n := by omega
     subst this; rw [h] at hx; simp at hx
   rw [pruneL_none h] at hlt ⊢
   exact pruneL_all hp n hlt j x this hx
  | some z =>
   rw [pruneL_step h] at hlt ⊢
   have hlt2 : (pruneL Z L n).length < 36 := by
    split at hlt
    ·exact hlt
    ·rw [List.length_append] at hlt; omega
   rcases Nat.lt_or_ge j n with h1 | h1
   ·obtain ⟨y, y1, y2⟩ := pruneL_all hp n hlt2 j x h1 hx
    refine ⟨y, ?_, y2⟩
    split
    ·exact y1
    ·exact List.mem_append_left _ y1
   ·have : j = n := by omega
    subst this
    rw [h] at hx; obtain rfl := Option.some.inj hx
    by_cases hb : LikeBefore Z L j z
    ·rw [if_pos (.inl hb)]
     obtain ⟨q, w, q1, q2, q3⟩ := hb
     obtain ⟨y, y1, y2, y3⟩ := pruneL_all hp j hlt2 q w q1 q2
     have hwz := pairwise_le hp q2 h q1
     refine ⟨y, y1, y2.trans q3, .inr ?_⟩
     rcases y3 with rfl | y3
     ·exact hwz
     ·exact bef_trans _ _ _ y3 hwz
    ·rw [if_neg (fun h => h.elim hb (fun h => by omega))]
     exact ⟨z, by simp, rfl, .inl rfl⟩
theorem first_ex {Z : SList} {M : List SPair} {q : S2String} : ∀ n : Nat, (∃ (j : Nat) (x : SPair), j < n ∧ M[j]? = some x ∧ foundK Z x = q) → ∃ (w : Nat) (y : SPair), w < n ∧ M[w]? = some y ∧ foundK Z y = q ∧ ∀ (j : Nat) (z : SPair), j < n → M[j]? = some z → foundK Z z = q → ¬ (compK Z z < compK Z y ∨ (compK Z z = compK Z y ∧ j < w))
 | 0, ⟨j, x, h, _⟩ => by omega
 | n + 1, h => by
  by_cases hp : ∃ j x, j < n ∧ M[j]? = some x ∧ foundK Z x = q
  ·obtain ⟨w, y, w1, w2, w3, w4⟩ := first_ex n hp
   by_cases hn : ∃ z, M[n]? = some z ∧ foundK Z z = q ∧ compK Z z < compK Z y
   ·obtain ⟨z, z1, z2, z3⟩ := hn
    refine ⟨n, z, by omega, z1, z2, fun j v hj hv hf => ?_⟩
    rcases Nat.lt_or_ge j n with h1 | h1
    ·have := w4 j v h1 hv hf; omega
    ·have : j = n := by omega
     subst this; rw [z1] at hv; obtain rfl := Option.some.inj hv; omega
   ·refine ⟨w, y, by omega, w2, w3, fun j v hj hv hf => ?_⟩
    rcases Nat.lt_or_ge j n with h1 | h1
    ·exact w4 j v h1 hv hf
    ·have : j = n := by omega
     subst this
     rintro (h2 | h2)
     ·exact hn ⟨v, hv, hf, h2⟩
     ·omega
  ·obtain ⟨j, x, h1, h2, h3⟩ := h
   have hj : j = n := by
    rcases Nat.lt_or_ge j n with h4 | h4
    ·exact absurd ⟨j, x, h4, h2, h3⟩ hp
    ·omega
   subst hj
   refine ⟨j, x, h1, h2, h3, fun i v hi hv hf => ?_⟩
   have : i = j := by
    rcases Nat.lt_or_ge i j with h4 | h4
    ·exact absurd ⟨i, v, h4, hv, hf⟩ hp
    ·omega
   subst this
   rw [h2] at hv; obtain rfl := Option.some.inj hv; omega
theorem WokeL.at {Z : SList} {M ps : List SPair} (h : WokeL Z M ps) {i : Nat} {y : SPair} (hy : ps[i]? = some y) : ∃ x, M[i]? = some x ∧ y.fLocal = x.fLocal ∧ y.fRemote = x.fRemote ∧ y.fPriority = x.fPriority ∧ (y.fState = 1 ∧ FirstW Z M i x ∨ y.fState = x.fState ∧ ¬ FirstW Z M i x) := by
 have hi := (List.getElem?_eq_some_iff.1 hy).1
 have hx : M[i]? = some (M[i]'(by rw [← h.1]; exact hi)) := List.getElem?_eq_getElem _
 generalize M[i]'(by rw [← h.1]; exact hi) = x at hx
 refine ⟨x, hx, ?_⟩
 rw [h.2 i x hx] at hy
 obtain rfl := Option.some.inj hy
 split
 ·rename_i hf; exact ⟨rfl, rfl, rfl, .inl ⟨rfl, hf⟩⟩
 ·rename_i hf; exact ⟨rfl, rfl, rfl, .inr ⟨rfl, hf⟩⟩
theorem WokeL.map {Z : SList} {M ps : List SPair} (h : WokeL Z M ps) {β : Type} (f : SPair → β) (hf : ∀ x y : SPair, y.fLocal = x.fLocal → y.fRemote = x.fRemote → y.fPriority = x.fPriority → f y = f x) : ps.map f = M.map f := by
 refine List.ext_getElem? fun i => ?_
 rw [List.getElem?_map, List.getElem?_map]
 cases hy : ps[i]? with
 | none =>
  rw [List.getElem?_eq_none_iff] at hy
  rw [List.getElem?_eq_none (by rw [← h.1]; exact hy)]
 | some y =>
  obtain ⟨x, hx, e1, e2, e3, _⟩ := h.at hy
  rw [hx, Option.map_some, Option.map_some, hf x y e1 e2 e3]
theorem likeK_eq {Z : SList} {x y : SPair} (h1 : y.fLocal = x.fLocal) (h2 : y.fRemote = x.fRemote) : likeK Z y = likeK Z x := by unfold likeK locC remC; rw [h1, h2]
theorem foundK_eq {Z : SList} {x y : SPair} (h1 : y.fLocal = x.fLocal) (h2 : y.fRemote = x.fRemote) : foundK Z y = foundK Z x := by unfold foundK locC remC; rw [h1, h2]
theorem compK_eq {Z : SList} {x y : SPair} (h1 : y.fLocal = x.fLocal) : compK Z y = compK Z x := by unfold compK locC; rw [h1]
theorem prio_eq {Z : SList} {x y : SPair} (h1 : y.fLocal = x.fLocal) (h2 : y.fRemote = x.fRemote) : prio Z y = prio Z x := by unfold prio locC remC; rw [h1, h2]
theorem fitsL_at {Z : SList} {x : SPair} (h : x ∈ fitsL Z Z.fLocals.length) : InB Z x ∧ FitP (locC Z x) (remC Z x) ∧ x.fPriority = prio Z x ∧ x.fState = 0 := by
 obtain ⟨i, j, h1, h2, h3, rfl⟩ := fitsL_mem.1 h
 obtain ⟨a, b, ha, hb, hf⟩ := h3
 refine ⟨⟨⟨by show (0 : Int) ≤ (i : Int); omega, by show (i : Int) < _; omega⟩, ⟨by show (0 : Int) ≤ (j : Int); omega, by show (j : Int) < _; omega⟩⟩, ?_, rfl, rfl⟩
 have e1 : locC Z (mkP Z i j) = a := by unfold locC mkP; simp only [Int.toNat_natCast]; rw [ha]; rfl
 have e2 : remC Z (mkP Z i j) = b := by unfold remC mkP; simp only [Int.toNat_natCast]; rw [hb]; rfl
 rw [e1, e2]; exact hf
structure MShape (Z : SList) (ps : List SPair) : Prop where
 len : ps.length ≤ 36
 low : ps.length ≤ (fitsL Z Z.fLocals.length).length
 pair : ∀ x, x ∈ ps → InB Z x ∧ FitP (locC Z x) (remC Z x) ∧ x.fPriority = prio Z x ∧ (x.fState = 0 ∨ x.fState = 1)
 sorted : ps.Pairwise bef
 nodup : (ps.map (likeK Z)).Nodup
 all : ps.length < 36 → ∀ i k, FitAt Z i k → ∃ y, y ∈ ps ∧ likeK Z y = likeK Z (mkP Z i k) ∧ (mkP Z i k).fPriority ≤ y.fPriority
 wait : ∀ x, x ∈ ps → ∃ (w : Nat) (y : SPair), ps[w]? = some y ∧ foundK Z y = foundK Z x ∧ y.fState = 1 ∧ ∀ (w' : Nat) (y' : SPair), ps[w']? = some y' → foundK Z y' = foundK Z x → y'.fState = 1 → w' = w ∧ compK Z y' ≤ compK Z x
 full : ps.length = (fitsL Z Z.fLocals.length).length → (ps.map (·.fPriority)).Perm ((fitsL Z Z.fLocals.length).map (·.fPriority))
theorem MadeP.shape {Z : SList} {ps : List SPair} (h : MadeP Z ps) : MShape Z ps := by
 obtain ⟨S, ⟨hperm, hsort⟩, hw⟩ := h
 have hlen := pruneL_le Z S S.length
 have hsub : (pruneL Z S S.length).Sublist S := by have := pruneL_sub (Z := Z) (L := S) S.length; rwa [List.take_length] at this
 have hM : ∀ x, x ∈ pruneL Z S S.length → InB Z x ∧ FitP (locC Z x) (remC Z x) ∧ x.fPriority = prio Z x ∧ x.fState = 0 := fun x hx => fitsL_at (hperm.mem_iff.1 (hsub.subset hx))
 have hpw := pruneL_pw (Z := Z) hsort S.length
 have hnd := pruneL_nodup (Z := Z) (L := S) S.length
 have hall := pruneL_all (Z := Z) hsort S.length
 have hfull : (pruneL Z S S.length).length = S.length → pruneL Z S S.length = S := fun h => hsub.eq_of_length h
 generalize pruneL Z S S.length = M at *
 refine ⟨by rw [hw.1]; exact hlen, by rw [hw.1, ← hperm.length_eq]; exact hsub.length_le, fun y hy => ?_, ?_, ?_, fun hlt i k hfit => ?_, fun y hy => ?_, fun h => ?_⟩
 ·obtain ⟨i, hi⟩ := List.mem_iff_getElem?.1 hy
  obtain ⟨x, hx, e1, e2, e3, e4⟩ := hw.at hi
  obtain ⟨h1, h2, h3, h4⟩ := hM x (List.mem_of_getElem? hx)
  refine ⟨by unfold InB at h1 ⊢; rw [e1, e2]; exact h1, ?_, by rw [e3, prio_eq e1 e2]; exact h3, ?_⟩
  ·have : locC Z y = locC Z x := by unfold locC; rw [e1]
   have e5 : remC Z y = remC Z x := by unfold remC; rw [e2]
   rw [this, e5]; exact h2
  ·rcases e4 with e4 | e4
   ·exact .inr e4.1
   ·exact .inl (e4.1.trans h4)
 ·rw [List.pairwise_iff_getElem]
  intro i j hi hj hij
  obtain ⟨x, hx, e1, e2, e3, _⟩ := hw.at (List.getElem?_eq_getElem hi)
  obtain ⟨x', hx', f1, f2, f3, _⟩ := hw.at (List.getElem?_eq_getElem hj)
  have := pairwise_le hpw hx hx' hij
  unfold bef ix at this ⊢
  rw [e1, e2, e3, f1, f2, f3]; exact this
 ·rw [hw.map (likeK Z) (fun x y h1 h2 _ => likeK_eq h1 h2)]; exact hnd
 ·rw [hw.1] at hlt
  have hin : mkP Z i k ∈ S := by
   obtain ⟨a, b, ha, hb, _⟩ := id hfit
   exact hperm.mem_iff.2 (fitsL_mem.2 ⟨i, k, (List.getElem?_eq_some_iff.1 ha).1, (List.getElem?_eq_some_iff.1 hb).1, hfit, rfl⟩)
  obtain ⟨j, hj⟩ := List.mem_iff_getElem?.1 hin
  obtain ⟨x, x1, x2, x3⟩ := hall hlt j _ (List.getElem?_eq_some_iff.1 hj).1 hj
  obtain ⟨q, hq⟩ := List.mem_iff_getElem?.1 x1
  have hp := hw.2 q x hq
  refine ⟨_, List.mem_of_getElem? hp, ?_, ?_⟩
  ·rw [← x2]; split
   ·exact likeK_eq rfl rfl
   ·rfl
  ·have : (if FirstW Z M q x then SPair.mk x.fLocal x.fRemote x.fPriority 1 else x).fPriority = x.fPriority := by split <;> rfl
   rw [this]
   rcases x3 with rfl | x3
   ·exact Int.le_refl _
   ·unfold bef at x3; omega
 ·obtain ⟨i, hi⟩ := List.mem_iff_getElem?.1 hy
  obtain ⟨x, hx, e1, e2, e3, _⟩ := hw.at hi
  obtain ⟨w, z, w1, w2, w3, w4⟩ := first_ex (Z := Z) (M := M) (q := foundK Z y) M.length ⟨i, x, (List.getElem?_eq_some_iff.1 hx).1, hx, (foundK_eq e1 e2).symm⟩
  have hF : FirstW Z M w z := fun j v hv hf => w4 j v (List.getElem?_eq_some_iff.1 hv).1 hv (hf.trans w3)
  have hp := hw.2 w z w2
  rw [if_pos hF] at hp
  refine ⟨w, _, hp, (foundK_eq rfl rfl).trans w3, rfl, fun w' y' h1 h2 h3 => ?_⟩
  obtain ⟨x', hx', f1, f2, f3, f4⟩ := hw.at h1
  have hF' : FirstW Z M w' x' := by
   rcases f4 with f4 | f4
   ·exact f4.2
   ·have := (hM x' (List.mem_of_getElem? hx')).2.2.2
    rw [f4.1, this] at h3; omega
  have hk : foundK Z x' = foundK Z y := (foundK_eq f1 f2).symm.trans h2
  have a1 := hF' w z w2 (w3.trans hk.symm)
  have a2 := hF w' x' hx' (hk.trans w3.symm)
  have a3 := hF' i x hx ((foundK_eq e1 e2).symm.trans hk.symm)
  have c1 := compK_eq (Z := Z) f1
  have c2 := compK_eq (Z := Z) e1
  refine ⟨by omega, by omega⟩
 ·rw [hw.1, ← hperm.length_eq] at h
  rw [hw.map (·.fPriority) (fun x y _ _ h => h), hfull h]
  exact hperm.map _
end Go.Proofs.YtioobnkmohikjaaDoor
namespace Go.Proofs.YtioobnkmohikjaaDoor
open Go Go.EV
set_option maxRecDepth 100000
open Classical
def l0 : SList := ⟨false, [], [], []⟩
theorem okSTART (l : SList) : SOk (s34 l) (fun r => match r with | .inl _ => ¬ ValidL l | .inr _ => ValidL l) := by
 show Ok (g34 l) _
 unfold g34
 refine Ok.view (okVALID l) fun r hr => Ok.br (fun h => Ok.done ?_) (fun h => ?_)
 ·simp only [Bool.not_eq_true'] at h; subst h
  exact fun hv => by have := hr.2 hv; simp at this
 ·simp only [Bool.not_eq_false'] at h
  have hv := hr.1 h
  refine Ok.call (R := fun _ => True) ?_ fun _ _ => Ok.done hv
  show Ok (g53 l.fPairs) _
  unfold g53
  exact Ok.app (by have := hv.1.2.2.1; simp; omega) (Ok.done trivial)
def withP (l : SList) (c : Bool) (ps : List SPair) : SList := ⟨c, l.fLocals, l.fRemotes, ps⟩
def turnX (l : SList) (x : SPair) : SPair := ⟨x.fLocal, x.fRemote, prio (withP l (!l.fControlling) []) x, x.fState⟩
noncomputable def turnF (l : SList) : SList × Int := if ValidL l then (withP l (!l.fControlling) (l.fPairs.map (turnX l)), 0) else (l0, 100)
theorem okTURN (l : SList) : SOk (s12 l) (fun r => r = turnF l) := by
 show Ok (g12 l) _
 unfold g12 turnF
 refine Ok.call2 (okSTART l) (fun r hv => Ok.tt (Ok.done (by rw [if_neg hv]; rfl))) (fun r hv => ?_)
 have hlen : l.fPairs.length ≤ 36 := hv.1.2.2.1
 refine Ok.ff (Ok.bind (R := fun e => e = l.fPairs.map (turnX l)) ?_ fun e he => Ok.gh (Ok.done (by rw [if_pos hv, he]; rfl)))
 refine Ok.scan l.fPairs.length (by omega) (fun k y => k ≤ l.fPairs.length ∧ y = (mapTo (turnX l) l.fPairs k, (k : Int))) ⟨Nat.zero_le _, by rw [mapTo_zero]; rfl⟩ (fun k y hy hk => ?_) (fun y hy => ?_)
 ·obtain ⟨hkl, rfl⟩ := hy
  refine Ok.br (fun hc => ?_) (fun hc => by simp at hc; omega)
  obtain ⟨x, hx1, hx2⟩ := get_lt hk
  have hx3 : (mapTo (turnX l) l.fPairs k)[0 + ((k : Int)).toNat]? = some x := by rw [Nat.zero_add, Int.toNat_natCast, mapTo_here _ hk, hx2]
  have hlk : (mapTo (turnX l) l.fPairs k).length = l.fPairs.length := mapTo_len _ _ hkl
  have hI : InB (withP l (!l.fControlling) (mapTo (turnX l) l.fPairs k)) x := (hv.2.1 x (List.mem_of_getElem? hx2)).1
  refine Ok.chk (by simp [hlk]; omega) (Ok.row rfl hx3 (Ok.view (okPRIO (withP l (!l.fControlling) (mapTo (turnX l) l.fPairs k)) x hI hv.1.2.2.2.1 hv.1.2.2.2.2) fun p hp => Ok.chk (by simp [hlk]; omega) (Ok.row rfl hx3 (Ok.re (Ok.gh (Ok.done ?_))))))
  refine ⟨hk, ?_⟩
  have e := mapTo_set (turnX l) hx2
  rw [Nat.zero_add, Int.toNat_natCast, wi64_nat hk (by omega), hp]
  exact congrArg (fun z => (z, ((k + 1 : Nat) : Int))) e
 ·obtain ⟨hkl, rfl⟩ := hy
  refine Ok.br (fun hc => by simp at hc) (fun hc => Ok.done ?_)
  exact mapTo_last _ _
end Go.Proofs.YtioobnkmohikjaaDoor
namespace Go.Proofs.YtioobnkmohikjaaDoor
open Go Go.EV
set_option maxRecDepth 100000
open Classical
theorem okSAMEC (l : List SCandidate) (hl : l.length ≤ 1000000) : SOk (s32 l l) (fun b => b = true) := by
 show Ok (g32 l l) _
 unfold g32
 simp only [mlen_eq]
 refine Ok.brF (by simp) (Ok.bind2 (R := fun e => match e with | .inl _ => False | .inr _ => True) ?_ (fun e he => he.elim) (fun e he => Ok.done rfl))
 refine Ok.scan l.length hl (fun k y => y = (k : Int)) rfl (fun k y hy hk => ?_) (fun y hy => ?_)
 ·subst hy
  refine Ok.br (fun hc => ?_) (fun hc => by simp at hc; omega)
  obtain ⟨x, hx1, hx2⟩ := get_lt hk
  exact Ok.row (by simp) hx1 (Ok.row (by simp) hx1 (Ok.brF (by simp) (Ok.done (wi64_nat hk hl))))
 ·subst hy
  exact Ok.br (fun hc => by simp at hc) (fun hc => Ok.done trivial)
theorem okSAME (l : SList) (h1 : l.fLocals.length ≤ 1000000) (h2 : l.fRemotes.length ≤ 1000000) (h3 : l.fPairs.length ≤ 1000000) : SOk (s13 l l) (fun b => b = true) := by
 show Ok (g13 l l) _
 unfold g13
 simp only [mlen_eq]
 refine Ok.cnd (R := fun c => c = false) (Ok.brF (by simp) (Ok.call (okSAMEC _ h1) fun r hr => Ok.brF (by rw [hr]; rfl) (Ok.call (okSAMEC _ h2) fun r hr => Ok.brF (by rw [hr]; rfl) (Ok.done (by simp))))) fun c hc => ?_
 refine Ok.brF hc (Ok.bind2 (R := fun e => match e with | .inl _ => False | .inr _ => True) ?_ (fun e he => he.elim) (fun e he => Ok.done rfl))
 refine Ok.scan l.fPairs.length h3 (fun k y => y = (k : Int)) rfl (fun k y hy hk => ?_) (fun y hy => ?_)
 ·subst hy
  refine Ok.br (fun hc => ?_) (fun hc => by simp at hc; omega)
  obtain ⟨x, hx1, hx2⟩ := get_lt hk
  exact Ok.row (by simp) hx1 (Ok.row (by simp) hx1 (Ok.brF (by simp) (Ok.done (wi64_nat hk h3))))
 ·subst hy
  exact Ok.br (fun hc => by simp at hc) (fun hc => Ok.done trivial)
end Go.Proofs.YtioobnkmohikjaaDoor
namespace Go.Proofs.YtioobnkmohikjaaDoor
open Go Go.EV
set_option maxRecDepth 100000
open Classical
end Go.Proofs.YtioobnkmohikjaaDoor
namespace Go.Proofs.YtioobnkmohikjaaDoor
open Go Go.EV
set_option maxRecDepth 100000
open Classical
def HexL (s : ByteArray) : Prop := ∀ u : UInt8, u ∈ s.data.toList → HexD ((u.toNat : Nat) : Int)
theorem HexL.all {s : ByteArray} (h : HexL s) : AllHex s := fun i hi => by
 have hi' : i < s.data.size := hi
 have e : bAt s (i : Int) = ((s.data[i]'hi').toNat : Int) := by
  unfold bAt
  rw [Int.toNat_natCast, Array.getD_eq_getD_getElem?, Array.getElem?_eq_getElem hi']; rfl
 rw [e]
 exact h _ (by simp)
theorem HexL.app {a b : ByteArray} (h : HexL a) (k : HexL b) : HexL (a ++ b) := fun u hu => by
 rw [ByteArray.data_append, Array.toList_append] at hu
 rcases List.mem_append.1 hu with hu | hu
 ·exact h u hu
 ·exact k u hu
theorem hexT : ∀ i : Fin 16, HexD (bAt (bs [48, 49, 50, 51, 52, 53, 54, 55, 56, 57, 97, 98, 99, 100, 101, 102]) (i.val : Int)) := by
 unfold HexD; decide
theorem hexT_at {i : Int} (h0 : 0 ≤ i) (h : i < 16) : HexD (bAt (bs [48, 49, 50, 51, 52, 53, 54, 55, 56, 57, 97, 98, 99, 100, 101, 102]) i) := by
 obtain ⟨n, rfl⟩ := Int.eq_ofNat_of_zero_le h0
 exact hexT ⟨n, by omega⟩
theorem hexL_nums {l : List Int} (h : ∀ x, x ∈ l → HexD x) : HexL (strOfNums l) := fun u hu => by
 unfold strOfNums at hu
 simp only [List.mem_map] at hu
 obtain ⟨x, hx, rfl⟩ := hu
 have hd := h x hx
 unfold HexD at hd
 have e : ((UInt8.ofNat x.toNat).toNat : Int) = x := by
  rw [UInt8.toNat_ofNat']
  omega
 rw [e]; exact h x hx
theorem hexL_dash : HexL (bs [45]) := fun u hu => by
 simp [bs] at hu; subst hu
 exact .inr (.inr rfl)
theorem okITOAH (n : Int) (h : 1 ≤ n ∧ n ≤ 4) : SOk (s63 n) (fun r => r.size = 1 ∧ HexL r) := by
 have h1 : SOk (s86 n) (fun r => r.size = 1 ∧ HexL r) := by
  show Ok (g86 n) _
  unfold g86
  refine Ok.brT (by simp; omega) (Ok.chk ?_ (Ok.done ?_))
  ·rw [wi64_id (by omega) (by omega)]; simp; omega
  ·rw [wi64_id (by omega) (by omega)]
   have : n = 1 ∨ n = 2 ∨ n = 3 ∨ n = 4 := by omega
   rcases this with rfl | rfl | rfl | rfl
   all_goals (refine ⟨by decide, fun u hu => ?_⟩; revert u; unfold HexD; decide)
 have h2 : SOk (s80 n 10) (fun r => r.size = 1 ∧ HexL r) := by
  show Ok (g80 n 10) _
  unfold g80
  refine Ok.brT rfl (Ok.cnd (R := fun c => c = true) (Ok.brT (by simp; omega) (Ok.done (by simp; omega))) fun c hc => ?_)
  subst hc
  exact Ok.brT rfl (Ok.call h1 fun r hr => Ok.done hr)
 have h3 : SOk (s69 n) (fun r => r.size = 1 ∧ HexL r) := by
  show Ok (g69 n) _
  unfold g69
  exact Ok.call h2 fun r hr => Ok.done hr
 show Ok (g63 n) _
 unfold g63
 exact Ok.call h3 fun r hr => Ok.done hr
theorem okHEXH (s : ByteArray) (h : s.size ≤ 100000) : SOk (s64 s) (fun r => r.size = 2 * s.size ∧ HexL r) := by
 show Ok (g64 s) _
 unfold g64
 have e : wi64 ((2 : Int) * (s.size : Int)) = 2 * (s.size : Int) := wi64_id (by omega) (by omega)
 refine Ok.opr (r := ()) (by rw [e]; simp only [Rule.makeD]; rw [show (decide ((0 : Int) ≤ 0) && decide ((0 : Int) ≤ 2 * (s.size : Int)) && decide (1 * (2 * (s.size : Int)).toNat ≤ 281474976710656) && decide (2 * (s.size : Int) ≤ 9223372036854775807)) = true from by simp; omega]; rfl) ?_
 refine Ok.gh (Ok.bind (R := fun l => l.length = 2 * s.size ∧ ∀ x, x ∈ l → HexD x) ?_ fun e he => Ok.opr (r := ()) rfl (Ok.done ⟨by rw [strOfNums_size]; exact he.1, hexL_nums he.2⟩))
 refine Ok.scan s.size (by omega) (fun k y => y.2 = (k : Int) ∧ y.1.length = 2 * k ∧ ∀ x, x ∈ y.1 → HexD x) ⟨rfl, rfl, fun x h => by simp at h⟩ (fun k y hy hk => ?_) (fun y hy => ?_)
 ·obtain ⟨hi, hs, hh⟩ := hy
  obtain ⟨y1, y2⟩ := y
  simp only at hi hs hh
  subst hi
  have hb := bAt_lt s (k : Int)
  have hq : (wu8 (Int.tdiv (bAt s (k : Int)) 16)) = bAt s (k : Int) / 16 := by
   rw [Int.tdiv_eq_ediv_of_nonneg hb.1]
   unfold wu8 IntKind.wrap
   simp [IntKind.signed, IntKind.bits]
   omega
  have hm : Int.tmod (bAt s (k : Int)) 16 = bAt s (k : Int) % 16 := Int.tmod_eq_emod_of_nonneg hb.1
  refine Ok.br (fun hc => ?_) (fun hc => by simp at hc; omega)
  refine Ok.chk (by simp; omega) (Ok.chk (by rw [hq]; simp [bs, ByteArray.size]; omega) (Ok.chk (by simp; omega) (Ok.chk (by rw [hm]; simp [bs, ByteArray.size]; omega) (Ok.app ?_ (Ok.gh (Ok.gh (Ok.done ⟨wi64_nat hk (by omega), ?_, fun x hx => ?_⟩)))))))
  ·simp [hs]; omega
  ·simp [hs]; omega
  ·rcases List.mem_append.1 hx with hx | hx
   ·exact hh x hx
   ·simp only [List.mem_cons, List.not_mem_nil, or_false] at hx
    rcases hx with rfl | rfl
    ·rw [hq]; exact hexT_at (by omega) (by omega)
    ·rw [hm]; exact hexT_at (by omega) (by omega)
 ·obtain ⟨hi, hs, hh⟩ := hy
  obtain ⟨y1, y2⟩ := y
  simp only at hi hs hh
  subst hi
  exact Ok.br (fun hc => by simp at hc) (fun hc => Ok.done ⟨by show y1.length = _; omega, hh⟩)
theorem okRFOUNDH (k : Int) (b s : SAddr) (hk : 1 ≤ k ∧ k ≤ 4) (hb : UsableA b) (hs : s = ⟨ByteArray.empty, 0⟩ ∨ UsableA s) : SOk (s54 k b s) (fun r => r.2 = 0 ∧ 1 ≤ r.1.size ∧ r.1.size ≤ 80 ∧ HexL r.1) := by
 show Ok (g54 k b s) _
 unfold g54
 have hbs : b.fHost.size ≤ 16 := by have := hb.1; omega
 have hss : s.fHost.size ≤ 16 := by
  rcases hs with rfl | hs
  ·show (0 : Nat) ≤ 16; omega
  ·have := hs.1; omega
 refine Ok.cnd (R := fun c => c = false) ?_ fun c hc => ?_
 ·refine Ok.brF (by simp; omega) (Ok.brF (by simp; omega) (Ok.call (okRUSABLE _) fun r hr => Ok.brF (by rw [hr.2 hb]; rfl) ?_))
  refine Ok.br (fun h => Ok.call (okRUSABLE _) fun r2 hr2 => Ok.done ?_) (fun h => Ok.done rfl)
  rcases hs with rfl | hs
  ·simp at h
  ·rw [hr2.2 hs]; rfl
 ·refine Ok.brF hc ?_
  have h1 : (bs [45]).size = 1 := rfl
  refine Ok.call (okITOAH k hk) fun r hr => Ok.chk (by simp only [decide_eq_true_eq]; omega) (Ok.call (okHEXH _ (by omega)) fun r2 hr2 => ?_)
  refine Ok.chk (by simp only [decide_eq_true_eq, ByteArray.size_append]; omega) (Ok.chk (by simp only [decide_eq_true_eq, ByteArray.size_append]; omega) (Ok.call (okHEXH _ (by omega)) fun r3 hr3 => Ok.chk (by simp only [decide_eq_true_eq, ByteArray.size_append]; omega) (Ok.done ⟨rfl, ?_, ?_, ?_⟩)))
  ·simp only [ByteArray.size_append]; omega
  ·simp only [ByteArray.size_append]; omega
  ·exact (((hr.2.app hexL_dash).app hr2.2).app hexL_dash).app hr3.2
theorem okRPRI9H (k p q : Int) (hk : 1 ≤ k ∧ k ≤ 4) (hp : 1 ≤ p ∧ p ≤ 65535) (hq : 1 ≤ q ∧ q ≤ 2) : SOk (s55 k p q) (fun r => r.2 = 0 ∧ 1 ≤ r.1 ∧ r.1 ≤ 2147483647) := by
 show Ok (g55 k p q) _
 unfold g55
 refine Ok.cnd (R := fun c => c = false) (Ok.brF (by simp; omega) (Ok.brF (by simp; omega) (Ok.brF (by simp; omega) (Ok.brF (by simp; omega) (Ok.brF (by simp; omega) (Ok.done (by simp; omega))))))) fun c hc => ?_
 refine Ok.brF hc ?_
 have key : ∀ b : Int, 0 ≤ b → b ≤ 2113929216 → wi64 (wi64 (wi64 (b + wi64 (256 * p)) + 256) - q) = b + 256 * p + 256 - q := fun b h0 h1 => by
  rw [wi64_id (n := 256 * p) (by omega) (by omega), wi64_id (n := b + 256 * p) (by omega) (by omega), wi64_id (n := b + 256 * p + 256) (by omega) (by omega), wi64_id (by omega) (by omega)]
 have seg : ∀ b : Int, 0 ≤ b → b ≤ 2113929216 → Ok (.br 0 ((wi64 ((wi64 ((wi64 (b + (wi64 ((256 : Int) * p)))) + 256)) - q)) == 0) (.done (0, 2)) (.done ((wi64 ((wi64 ((wi64 (b + (wi64 ((256 : Int) * p)))) + 256)) - q)), 0)) : TT (Int × Int)) (fun r => r.2 = 0 ∧ 1 ≤ r.1 ∧ r.1 ≤ 2147483647) := fun b h0 h1 => by
  rw [key b h0 h1]
  exact Ok.brF (by simp; omega) (Ok.done ⟨rfl, by simp only; omega, by simp only; omega⟩)
 have : k = 1 ∨ k = 2 ∨ k = 3 ∨ k = 4 := by omega
 rcases this with rfl | rfl | rfl | rfl
 ·exact Ok.ceq rfl (seg 2113929216 (by omega) (by omega))
 ·exact Ok.ceq rfl (seg 1845493760 (by omega) (by omega))
 ·exact Ok.ceq rfl (seg 1677721600 (by omega) (by omega))
 ·exact Ok.ceq rfl (seg 0 (by omega) (by omega))
theorem okPLACEH (p : Int) (hp : 0 ≤ p ∧ p ≤ 255) : SOk (s46 p) (fun r => UsableA r) := by
 show Ok (g46 p) _
 unfold g46
 have w : ∀ d : Int, 0 < d → wu8 (Int.tdiv p d) = p / d := fun d hd => by
  rw [Int.tdiv_eq_ediv_of_nonneg hp.1]
  have h1 : 0 ≤ p / d := Int.ediv_nonneg hp.1 (by omega)
  have h2 : p / d ≤ p := Int.ediv_le_self _ hp.1
  unfold wu8 IntKind.wrap
  simp [IntKind.signed, IntKind.bits]
  omega
 rw [w 8 (by omega), w 24 (by omega)]
 have e4 : Int.tmod (p / 8) 4 = (p / 8) % 4 := Int.tmod_eq_emod_of_nonneg (by omega)
 rw [e4]
 refine Ok.br (fun _ => Ok.done ⟨.inr (by rw [strOfNums_size]; rfl), ?_⟩) (fun _ => Ok.done ⟨.inl (by rw [strOfNums_size]; rfl), ?_⟩)
 ·simp only; rw [wi64_id (n := p / 24) (by omega) (by omega), wi64_id (by omega) (by omega)]; omega
 ·simp only; rw [wi64_id (n := p / 8 % 4) (by omega) (by omega), wi64_id (by omega) (by omega)]; omega
theorem okRNEWH (k : Int) (a b s : SAddr) (p c : Int) (hk : 1 ≤ k ∧ k ≤ 4) (ha : UsableA a) (hb : UsableA b) (hs : s = ⟨ByteArray.empty, 0⟩ ∨ UsableA s) (hp : 1 ≤ p ∧ p ≤ 65535) (hc : 1 ≤ c ∧ c ≤ 2)
  (hab : (a.fHost.size : Int) = (b.fHost.size : Int)) (he : a = b ∨ k = 2 ∨ k = 3) : SOk (s36 k a b s p c) (fun r => CandOk r.1) := by
 show Ok (g36 k a b s p c) _
 unfold g36
 refine Ok.call (okRFOUNDH k b s hk hb hs) fun f hf => Ok.brF (by rw [hf.1]; rfl) (Ok.call (okRPRI9H _ _ _ hk hp hc) fun q hq => Ok.brF (by rw [hq.1]; rfl) (Ok.call (okRCAND _) fun r3 hr3 => ?_))
 have hok : CandOk (SCandidate.mk k c q.1 f.1 a b) := ⟨hk, by simp only; omega, hq.2, by simp only; omega, hf.2.2.2.all, ha, hb, hab, he⟩
 exact Ok.brF (by rw [hr3.2 hok]; rfl) (Ok.done hok)
def DraftOk (d : SDraft) : Prop := (0 ≤ d.fKind ∧ d.fKind ≤ 255) ∧ (0 ≤ d.fComponent ∧ d.fComponent ≤ 255) ∧ (0 ≤ d.fAddr ∧ d.fAddr ≤ 255) ∧ (0 ≤ d.fBase ∧ d.fBase ≤ 255) ∧ (0 ≤ d.fServer ∧ d.fServer ≤ 255) ∧ 0 ≤ d.fPreference ∧ d.fPreference ≤ 65535
theorem okDCANDH (d : SDraft) (h : DraftOk d) : SOk (s22 d) (fun c => CandOk c) := by
 obtain ⟨hK, hC, hA, hB, hS, hP⟩ := h
 show Ok (g22 d) _
 unfold g22
 have ek : wi64 ((1 : Int) + wi64 (Int.tmod d.fKind 4)) = 1 + d.fKind % 4 := by
  rw [Int.tmod_eq_emod_of_nonneg hK.1, wi64_id (n := d.fKind % 4) (by omega) (by omega), wi64_id (by omega) (by omega)]
 have ec : wi64 ((1 : Int) + wi64 (Int.tmod d.fComponent 2)) = 1 + d.fComponent % 2 := by
  rw [Int.tmod_eq_emod_of_nonneg hC.1, wi64_id (n := d.fComponent % 2) (by omega) (by omega), wi64_id (by omega) (by omega)]
 have ep : wi64 ((1 : Int) + Int.tmod (wi64 d.fPreference) 65535) = 1 + d.fPreference % 65535 := by
  rw [wi64_id (n := d.fPreference) (by omega) (by omega), Int.tmod_eq_emod_of_nonneg hP.1, wi64_id (by omega) (by omega)]
 rw [ek, ec, ep]
 refine Ok.call (okPLACEH _ hA) fun a ha => Ok.call (okPLACEH _ hB) fun b hb => Ok.cnd (R := fun c => c = false → (1 + d.fKind % 4 ≠ 1 ∧ 1 + d.fKind % 4 ≠ 4) ∧ (b.fHost.size : Int) = (a.fHost.size : Int)) ?_ fun c hc => ?_
 ·refine Ok.br (fun _ => Ok.done fun h => by simp at h) (fun h1 => Ok.br (fun _ => Ok.done fun h => by simp at h) (fun h2 => Ok.done fun h3 => ?_))
  rw [beq_eq_false_iff_ne] at h1 h2
  rw [bne_eq_false_iff_eq] at h3
  exact ⟨⟨h1, h2⟩, h3⟩
 refine Ok.bind (R := fun e => UsableA ⟨e.1, e.2⟩ ∧ (a.fHost.size : Int) = (e.1.size : Int) ∧ (a = ⟨e.1, e.2⟩ ∨ 1 + d.fKind % 4 = 2 ∨ 1 + d.fKind % 4 = 3)) ?_ fun e he => ?_
 ·refine Ok.br (fun _ => Ok.done ⟨ha, rfl, .inl rfl⟩) (fun h => Ok.done ⟨hb, ?_, .inr ?_⟩)
  ·exact (hc h).2.symm
  ·have := (hc h).1; omega
 refine Ok.cnd (R := fun _ => True) (Ok.br (fun _ => Ok.done trivial) (fun _ => Ok.done trivial)) fun c2 _ => ?_
 refine Ok.bind (R := fun e => (SAddr.mk e.1 e.2) = ⟨ByteArray.empty, 0⟩ ∨ UsableA ⟨e.1, e.2⟩) (Ok.br (fun _ => Ok.call (okPLACEH _ hS) fun q hq => Ok.done (.inr hq)) (fun _ => Ok.done (.inl rfl))) fun e2 he2 => ?_
 exact Ok.call (okRNEWH _ a ⟨e.1, e.2⟩ ⟨e2.1, e2.2⟩ _ _ (by omega) ha he.1 he2 (by omega) (by omega) he.2.1 he.2.2) fun r hr => Ok.done hr
theorem okRCANDSH (l : List SDraft) (n : Nat) (hn : n ≤ 1000) (hl : ∀ d, d ∈ l → DraftOk d) : SOk (s7 l (n : Int)) (fun r => r.length ≤ n ∧ CandsOk r) := by
 show Ok (g7 l (n : Int)) _
 unfold g7
 simp only [mlen_eq]
 refine Ok.gh (Ok.bind (R := fun r => r.length ≤ n ∧ CandsOk r) ?_ fun e he => Ok.gh (Ok.done he))
 refine Ok.scan n (by omega) (fun k y => y.2 = (k : Int) ∧ y.1.length = k ∧ CandsOk y.1) ⟨rfl, rfl, fun c h => by simp at h⟩ (fun k y hy hk => ?_) (fun y hy => ?_)
 ·obtain ⟨hi, hs, ho⟩ := hy
  obtain ⟨y1, y2⟩ := y
  simp only at hi hs ho
  subst hi
  refine Ok.cnd (R := fun c => c = true → k < l.length) (Ok.br (fun h1 => Ok.done fun _ => by simpa using h1) (fun h1 => Ok.done fun h => by simp at h)) fun c hc => Ok.br (fun h => ?_) (fun h => Ok.done ⟨by show y1.length ≤ n; omega, ho⟩)
  obtain ⟨x, hx1, hx2⟩ := get_lt (hc h)
  refine Ok.row (by simp) hx1 (Ok.call (okDCANDH x (hl x (List.mem_of_getElem? hx2))) fun r hr => Ok.app (by simp [hs]; omega) (Ok.gh (Ok.gh (Ok.done ⟨wi64_nat hk (by omega), by simp [hs], fun c hc => ?_⟩))))
  rcases List.mem_append.1 hc with hc | hc
  ·exact ho c hc
  ·simp only [List.mem_singleton] at hc; subst hc; exact hr
 ·obtain ⟨hi, hs, ho⟩ := hy
  obtain ⟨y1, y2⟩ := y
  simp only at hi hs ho
  subst hi
  refine Ok.cnd (R := fun c => c = false) (Ok.br (fun h1 => Ok.done (by simp)) (fun h1 => Ok.done rfl)) fun c hc => ?_
  subst hc
  exact Ok.brF rfl (Ok.done ⟨by show y1.length ≤ n; omega, ho⟩)
end Go.Proofs.YtioobnkmohikjaaDoor
namespace Go.Proofs.YtioobnkmohikjaaDoor
open Go Go.EV
set_option maxRecDepth 100000
noncomputable def g24 (p0 : (List SCandidate)) : TT Unit := .app 3003 tySCandidate [] p0 88 true (by intros; rfl) (.done ())
theorem k24y : Piece Tryd.prog GG [2] 8 (cloneYes Tryd.f24.body) (Ext.lit .normal [(2, .nilsl)] []) (.done () : TT Unit) (fun _ => Ext.lit .ret [(2, .nilsl)] []) := by unfold Piece; kernel_rfl
theorem k24r (p0 : (List SCandidate)) : Piece Tryd.prog GG [0, 2, 5, 6, 7] 8 (cloneRest Tryd.f24.body) (Ext.lit .normal [(0, .sl false 8 (List.map tySCandidate.c p0)), (2, .nilsl)] []) (g24 p0) (fun _ => Ext.of .ret [(2, .ref 7 0 ([] ++ p0).length)] [] [BT.of 7 tySCandidate 8 ([] ++ p0)] (by rfl)) := by unfold Piece; kernel_rfl
theorem k24 (p0 : (List SCandidate)) {r : Unit} (h : (g24 p0).run = some r) : CallC Tryd.prog GG 24 [.sl false 8 (List.map tySCandidate.c p0)] (ofL []) (.ref 7 0 p0.length) (ofL [(7, ⟨8, true, List.map tySCandidate.c p0⟩)]) :=
 clone_ok (ty := tySCandidate) (ops0 := cloneOps0 Tryd.f24.body) (ops1 := cloneOps1 Tryd.f24.body) (yes := cloneYes Tryd.f24.body) (rest := cloneRest Tryd.f24.body) (t := 27) mixed (by decide) Tryd.func24 (by kernel_rfl) (by kernel_rfl) (by kernel_rfl) (by kernel_rfl) (by kernel_rfl) (by kernel_rfl) (by kernel_rfl) (by kernel_rfl) (by kernel_rfl) k24y (k24r p0) (by rfl) h
noncomputable def s24 (p0 : (List SCandidate)) : EV.Spec Tryd.prog GG Unit := ⟨24, [.sl false 8 (List.map tySCandidate.c p0)], [], (g24 p0).run, fun _ => .ref 7 0 p0.length, fun _ => [(7, ⟨8, true, List.map tySCandidate.c p0⟩)], [7], fun _ p hp _ => by
 rw [List.mem_singleton.1 hp]; exact tySCandidate.data _, fun _ h => k24 p0 h⟩
noncomputable def g8 (p0 : (List SCandidate)) (p1 : (List SCandidate)) (p2 : Bool) : TT (SList × Int) :=
 .cnd 1 [29]
 (.br 1005 (decide ((12 : Int) < (mlen tySCandidate p0)))
  (.done true)
  (.done (decide ((12 : Int) < (mlen tySCandidate p1)))))
 (fun (c398 : Bool) => [.bool c398]) fun c398 =>
 .br 0 c398
 (.done ((SList.mk false [] [] []), 3))
 (.cnd 3 [38]
  (.call 3002 (s23 p0) [] [] fun r399 =>
   .br 3005 (!r399)
   (.done true)
   (.call 3006 (s23 p1) [] [] fun r400 =>
    .done (!r400)))
  (fun (c401 : Bool) => [.bool c401]) fun c401 =>
  .br 0 c401
  (.done ((SList.mk false [] [] []), 90))
  (.call 5003 (s24 p0) [] [(7, 500016)] fun r402 =>
   .call 5005 (s24 p1) [] [(7, 500017)] fun r403 =>
   .gh 1 (.ren 47 700061) (.gh 1 (.ren 500016 700062) (.gh 1 (.ren 500017 700063) (.gh 1 (.virtC 900070 9 0 4) (.sub (subPairs p2 p0 p1) fun r404 =>
   .call 10002 (s26 r404.length r404) [(1000000, 900070)] [] fun r415 =>
   .opr 11001 (Rule.makeMap 76 57 1114373 (by decide)) fun _ =>
   .gh 1 (.virtC 600019 700061 3 4) (.bind 0
   (.lp (fun (l420 : (List SEnt76) × (List SPair) × Int) => Ext.of .normal [(6, .ptr 6 0 0), (7, .int .i64 0), (8, .ptr 700061 0 0), (11, .mp 57), (58, .ref 900070 0 r404.length), (59, .int .i64 (r404.length : Int)), (60, .int .i64 l420.2.2)] [(6, ⟨4, true, [[.bool false, .nilsl, .nilsl, .nilsl]]⟩), (700061, ⟨4, true, [[.bool p2, .ref 700062 0 p0.length, .ref 700063 0 p1.length, .ref 600019 0 l420.2.1.length]]⟩)] [BT.of 57 tySEnt76 1114373 l420.1 true, BT.of 600019 tySPair 4 l420.2.1 true, BT.of 700062 tySCandidate 8 p0 true, BT.of 700063 tySCandidate 8 p1 true, BT.of 900070 tySPair 4 r415 true] (by rfl))
    (fun l420 =>
     .br 0 (decide (l420.2.2 < (r404.length : Int)))
     (.chk 14001 (decide (0 ≤ l420.2.2) && decide (l420.2.2 < (r404.length : Int))) (.row 14002 tySPair r415 (0 + l420.2.2.toNat) true fun x421 =>
      .br 0 ((l420.2.1.length : Int) == 36)
      (.done (.inr l420.2.1))
      (.view 16004 (s29 (SPlanner.mk (SList.mk p2 p0 p1 l420.2.1)) x421) [(VwW.of 700062 tySCandidate p0), (VwW.of 700063 tySCandidate p1), (VwW.of 600019 tySPair l420.2.1)] fun r422 =>
       .opr 16005 (Rule.look (mt := 76) (kt := 78) (et := 4) (z := 1114373) (ty := tySEnt76) (p := (fun x => ((decide (r422.fbase.fHost = x.fk.fbase.fHost)) && ((r422.fbase.fPort == x.fk.fbase.fPort) && ((decide (r422.faddr.fHost = x.fk.faddr.fHost)) && ((r422.faddr.fPort == x.fk.faddr.fPort) && ((r422.fcomponent == x.fk.fcomponent) && true))))))) (kc := [.str r422.fbase.fHost, .int .i64 r422.fbase.fPort, .str r422.faddr.fHost, .int .i64 r422.faddr.fPort, .int .i64 r422.fcomponent]) (.tmp 71) (.tmp 74) 75 57 true l420.1 (.bool false) (.bool (mlook l420.1 (fun x => ((decide (r422.fbase.fHost = x.fk.fbase.fHost)) && ((r422.fbase.fPort == x.fk.fbase.fPort) && ((decide (r422.faddr.fHost = x.fk.faddr.fHost)) && ((r422.faddr.fPort == x.fk.faddr.fPort) && ((r422.fcomponent == x.fk.fcomponent) && true)))))) (fun x => x.fv) false)) ⟨by kernel_rfl, by kernel_rfl, by kernel_rfl, fun _ => by kernel_rfl⟩ (by kernel_rfl) (mlook_map _ _ (fun x : SEnt76 => x.fv) false V.bool)) fun _ =>
       .br 0 (mlook l420.1 (fun x => ((decide (r422.fbase.fHost = x.fk.fbase.fHost)) && ((r422.fbase.fPort == x.fk.fbase.fPort) && ((decide (r422.faddr.fHost = x.fk.faddr.fHost)) && ((r422.faddr.fPort == x.fk.faddr.fPort) && ((r422.fcomponent == x.fk.fcomponent) && true)))))) (fun x => x.fv) false)
       (.done (.inl (l420.1, l420.2.1, (wi64 (l420.2.2 + 1)))))
       (.view 17004 (s29 (SPlanner.mk (SList.mk p2 p0 p1 l420.2.1)) x421) [(VwW.of 700062 tySCandidate p0), (VwW.of 700063 tySCandidate p1), (VwW.of 600019 tySPair l420.2.1)] fun r423 =>
        .opr 17005 (Rule.put (mt := 76) (kt := 78) (et := 4) (z := 1114373) (ty := tySEnt76) (p := (fun x => ((decide (r423.fbase.fHost = x.fk.fbase.fHost)) && ((r423.fbase.fPort == x.fk.fbase.fPort) && ((decide (r423.faddr.fHost = x.fk.faddr.fHost)) && ((r423.faddr.fPort == x.fk.faddr.fPort) && ((r423.fcomponent == x.fk.fcomponent) && true))))))) (kc := [.str r423.fbase.fHost, .int .i64 r423.fbase.fPort, .str r423.faddr.fHost, .int .i64 r423.faddr.fPort, .int .i64 r423.fcomponent]) (.tmp 76) (.tmp 79) (.const (.bool true)) 57 l420.1 (SEnt76.mk r423 true) [.bool true] ⟨by kernel_rfl, by kernel_rfl, by kernel_rfl, fun _ => by kernel_rfl⟩ (by rfl) (by kernel_rfl) (by kernel_rfl) (by decide) (by decide)) fun _ =>
        .app 18009 tySPair l420.2.1 [x421] 32 false (by intro h; cases h) (.gh 0 (.drop [600019]) (.gh 0 (.ren 88 600019) (.done (.inl ((mput l420.1 (fun x => ((decide (r423.fbase.fHost = x.fk.fbase.fHost)) && ((r423.fbase.fPort == x.fk.fbase.fPort) && ((decide (r423.faddr.fHost = x.fk.faddr.fHost)) && ((r423.faddr.fPort == x.fk.faddr.fPort) && ((r423.fcomponent == x.fk.fcomponent) && true)))))) (SEnt76.mk r423 true)), (l420.2.1 ++ [x421]), (wi64 (l420.2.2 + 1)))))))))))
     (.done (.inr l420.2.1)))
    ([], [], 0))
   (fun (e424 : (List SPair)) => Ext.of (.exit 2) [(6, .ptr 6 0 0), (7, .int .i64 0), (8, .ptr 700061 0 0)] [(6, ⟨4, true, [[.bool false, .nilsl, .nilsl, .nilsl]]⟩), (700061, ⟨4, true, [[.bool p2, .ref 700062 0 p0.length, .ref 700063 0 p1.length, .ref 600019 0 e424.length]]⟩)] [BT.of 600019 tySPair 4 e424 true, BT.of 700062 tySCandidate 8 p0 true, BT.of 700063 tySCandidate 8 p1 true] (by rfl))
   (fun e424 =>
    .opr 20001 (Rule.makeMap 80 93 1114370 (by decide)) fun _ =>
    .bind 1
    (.lp (fun (l432 : (List SEnt80) × Int) => Ext.of .normal [(6, .ptr 6 0 0), (7, .int .i64 0), (8, .ptr 700061 0 0), (14, .mp 93), (98, .ref 600019 0 e424.length), (99, .int .i64 (e424.length : Int)), (100, .int .i64 l432.2)] [(6, ⟨4, true, [[.bool false, .nilsl, .nilsl, .nilsl]]⟩), (700061, ⟨4, true, [[.bool p2, .ref 700062 0 p0.length, .ref 700063 0 p1.length, .ref 600019 0 e424.length]]⟩)] [BT.of 93 tySEnt80 1114370 l432.1 true, BT.of 600019 tySPair 4 e424 true, BT.of 700062 tySCandidate 8 p0 true, BT.of 700063 tySCandidate 8 p1 true] (by rfl))
     (fun l432 =>
      .br 0 (decide (l432.2 < (e424.length : Int)))
      (.chk 23002 (decide (0 ≤ l432.2) && decide (l432.2 < (e424.length : Int))) (.row 23003 tySPair e424 (0 + l432.2.toNat) true fun x433 =>
       .view 24003 (s30 (SPlanner.mk (SList.mk p2 p0 p1 e424)) x433) [(VwW.of 700062 tySCandidate p0), (VwW.of 700063 tySCandidate p1), (VwW.of 600019 tySPair e424)] fun r434 =>
       .opr 25003 (Rule.look2 (mt := 80) (kt := 81) (et := 3) (z := 1114370) (ty := tySEnt80) (p := (fun x => ((decide (r434.a0 = x.fk.a0)) && ((decide (r434.a1 = x.fk.a1)) && true)))) (kc := [.str r434.a0, .str r434.a1]) (.tmp 109) (.tmp 110) 111 93 true l432.1 (.int .i64 0) (.int .i64 (mlook l432.1 (fun x => ((decide (r434.a0 = x.fk.a0)) && ((decide (r434.a1 = x.fk.a1)) && true))) (fun x => x.fv) 0)) ⟨by kernel_rfl, by kernel_rfl, by kernel_rfl, fun _ => by kernel_rfl⟩ (by kernel_rfl) (mlook_map _ _ (fun x : SEnt80 => x.fv) 0 (V.int .i64))) fun _ =>
       .cnd 26 [131]
       (.br 26004 (!(l432.1.findIdx? (fun x => ((decide (r434.a0 = x.fk.a0)) && ((decide (r434.a1 = x.fk.a1)) && true)))).isSome)
        (.done true)
        (.view 26006 (s31 (SPlanner.mk (SList.mk p2 p0 p1 e424)) x433) [(VwW.of 700062 tySCandidate p0), (VwW.of 700063 tySCandidate p1), (VwW.of 600019 tySPair e424)] fun r435 =>
         .chk 26014 (decide (0 ≤ (mlook l432.1 (fun x => ((decide (r434.a0 = x.fk.a0)) && ((decide (r434.a1 = x.fk.a1)) && true))) (fun x => x.fv) 0)) && decide ((mlook l432.1 (fun x => ((decide (r434.a0 = x.fk.a0)) && ((decide (r434.a1 = x.fk.a1)) && true))) (fun x => x.fv) 0) < (e424.length : Int))) (.row 26015 tySPair e424 (0 + (mlook l432.1 (fun x => ((decide (r434.a0 = x.fk.a0)) && ((decide (r434.a1 = x.fk.a1)) && true))) (fun x => x.fv) 0).toNat) true fun x436 =>
         .view 26016 (s31 (SPlanner.mk (SList.mk p2 p0 p1 e424)) x436) [(VwW.of 700062 tySCandidate p0), (VwW.of 700063 tySCandidate p1), (VwW.of 600019 tySPair e424)] fun r437 =>
         .done (decide (r435 < r437)))))
       (fun (c438 : Bool) => [.bool c438]) fun c438 =>
       .br 0 c438
       (.opr 27004 (Rule.put (mt := 80) (kt := 81) (et := 3) (z := 1114370) (ty := tySEnt80) (p := (fun x => ((decide (r434.a0 = x.fk.a0)) && ((decide (r434.a1 = x.fk.a1)) && true)))) (kc := [.str r434.a0, .str r434.a1]) (.tmp 132) (.tmp 133) (.tmp 134) 93 l432.1 (SEnt80.mk r434 l432.2) [.int .i64 l432.2] ⟨by kernel_rfl, by kernel_rfl, by kernel_rfl, fun _ => by kernel_rfl⟩ (by rfl) (by kernel_rfl) (by kernel_rfl) (by decide) (by decide)) fun _ =>
        .done (.inl ((mput l432.1 (fun x => ((decide (r434.a0 = x.fk.a0)) && ((decide (r434.a1 = x.fk.a1)) && true))) (SEnt80.mk r434 l432.2)), (wi64 (l432.2 + 1)))))
       (.done (.inl (l432.1, (wi64 (l432.2 + 1)))))))
      (.done (.inr l432.1)))
     ([], 0))
    (fun (e439 : (List SEnt80)) => Ext.of (.exit 4) [(6, .ptr 6 0 0), (7, .int .i64 0), (8, .ptr 700061 0 0), (14, .mp 93)] [(6, ⟨4, true, [[.bool false, .nilsl, .nilsl, .nilsl]]⟩), (700061, ⟨4, true, [[.bool p2, .ref 700062 0 p0.length, .ref 700063 0 p1.length, .ref 600019 0 e424.length]]⟩)] [BT.of 93 tySEnt80 1114370 e439 true, BT.of 600019 tySPair 4 e424 true, BT.of 700062 tySCandidate 8 p0 true, BT.of 700063 tySCandidate 8 p1 true] (by rfl))
    (fun e439 =>
     .gh 1 (.ren 600019 700064) (.gh 1 (.ren 93 700065) (.sub (subWait p2 p0 p1 e424.length e439 e424) fun r440 =>
     .gh 0 (.share (VwW.of 700062 tySCandidate p0) 1) (.gh 0 (.share (VwW.of 700063 tySCandidate p1) 1) (.gh 0 (.share (VwW.part 700064 tySPair r440 e424.length) 1) (.done ((SList.mk p2 p0 p1 (r440.take e424.length)), 0)))))))))))))))
theorem k8 (p0 : (List SCandidate)) (p1 : (List SCandidate)) (p2 : Bool) : FnD Tryd.prog GG [0, 1, 2, 6, 7, 8, 9, 10, 11, 13, 14, 15, 16, 17, 18, 19, 21, 29, 38, 49, 50, 58, 59, 60, 61, 70, 75, 98, 99, 100, 101, 131, 139] Tryd.f8 [.sl false 8 (List.map tySCandidate.c p0), .sl false 8 (List.map tySCandidate.c p1), .bool p2] (g8 p0 p1 p2) (fun r => .tup [.agg [.bool r.1.fControlling, .sl false 8 (List.map tySCandidate.c r.1.fLocals), .sl false 8 (List.map tySCandidate.c r.1.fRemotes), .sl false 4 (List.map tySPair.c r.1.fPairs)], .int .i64 r.2]) := by unfold FnD; kernel_rfl
noncomputable def s8 (p0 : (List SCandidate)) (p1 : (List SCandidate)) (p2 : Bool) : EV.Spec Tryd.prog GG (SList × Int) := .ofFn 8 mixed Tryd.func8 (k8 p0 p1 p2)
noncomputable def g8_1 (p0 : Bool) (p1 : (List SCandidate)) (p2 : (List SCandidate)) : TT (Int × Bool × (List SCandidate) × (List SCandidate) × (List SPair)) :=
 .cnd 1 [29]
 (.br 1005 (decide ((12 : Int) < (p1.length : Int)))
  (.done true)
  (.done (decide ((12 : Int) < (p2.length : Int)))))
 (fun (c444 : Bool) => [.bool c444]) fun c444 =>
 .br 0 c444
 (.done (3, false, [], [], []))
 (.cnd 3 [38]
  (.view 3002 (s23 p1) [(VwW.of 1000000 tySCandidate p1)] fun r445 =>
   .br 3005 (!r445)
   (.done true)
   (.view 3006 (s23 p2) [(VwW.of 1000001 tySCandidate p2)] fun r446 =>
    .done (!r446)))
  (fun (c447 : Bool) => [.bool c447]) fun c447 =>
  .br 0 c447
  (.done (90, false, [], [], []))
  (.gh 7 (.share (VwW.of 1000000 tySCandidate p1) 0) (.gh 7 (.share (VwW.of 1000001 tySCandidate p2) 0) (.call 5003 (s24 p1) [] [(7, 500021)] fun r448 =>
   .call 5005 (s24 p2) [] [(7, 500022)] fun r449 =>
   .gh 1 (.ren 47 700061) (.gh 1 (.ren 500021 700062) (.gh 1 (.ren 500022 700063) (.gh 1 (.virtC 900070 9 0 4) (.sub (subPairs p0 p1 p2) fun r450 =>
   .call 10002 (s26 r450.length r450) [(1000000, 900070)] [] fun r461 =>
   .opr 11001 (Rule.makeMap 76 57 1114373 (by decide)) fun _ =>
   .gh 1 (.virtC 600024 700061 3 4) (.bind 0
   (.lp (fun (l466 : (List SEnt76) × (List SPair) × Int) => Ext.of .normal [(6, .ptr 6 0 0), (7, .int .i64 0), (8, .ptr 700061 0 0), (11, .mp 57), (58, .ref 900070 0 r450.length), (59, .int .i64 (r450.length : Int)), (60, .int .i64 l466.2.2)] [(6, ⟨4, true, [[.bool false, .nilsl, .nilsl, .nilsl]]⟩), (700061, ⟨4, true, [[.bool p0, .ref 700062 0 p1.length, .ref 700063 0 p2.length, .ref 600024 0 l466.2.1.length]]⟩)] [BT.of 57 tySEnt76 1114373 l466.1 true, BT.of 600024 tySPair 4 l466.2.1 true, BT.of 700062 tySCandidate 8 p1 true, BT.of 700063 tySCandidate 8 p2 true, BT.of 900070 tySPair 4 r461 true] (by rfl))
    (fun l466 =>
     .br 0 (decide (l466.2.2 < (r450.length : Int)))
     (.chk 14001 (decide (0 ≤ l466.2.2) && decide (l466.2.2 < (r450.length : Int))) (.row 14002 tySPair r461 (0 + l466.2.2.toNat) true fun x467 =>
      .br 0 ((l466.2.1.length : Int) == 36)
      (.done (.inr l466.2.1))
      (.view 16004 (s29 (SPlanner.mk (SList.mk p0 p1 p2 l466.2.1)) x467) [(VwW.of 700062 tySCandidate p1), (VwW.of 700063 tySCandidate p2), (VwW.of 600024 tySPair l466.2.1)] fun r468 =>
       .opr 16005 (Rule.look (mt := 76) (kt := 78) (et := 4) (z := 1114373) (ty := tySEnt76) (p := (fun x => ((decide (r468.fbase.fHost = x.fk.fbase.fHost)) && ((r468.fbase.fPort == x.fk.fbase.fPort) && ((decide (r468.faddr.fHost = x.fk.faddr.fHost)) && ((r468.faddr.fPort == x.fk.faddr.fPort) && ((r468.fcomponent == x.fk.fcomponent) && true))))))) (kc := [.str r468.fbase.fHost, .int .i64 r468.fbase.fPort, .str r468.faddr.fHost, .int .i64 r468.faddr.fPort, .int .i64 r468.fcomponent]) (.tmp 71) (.tmp 74) 75 57 true l466.1 (.bool false) (.bool (mlook l466.1 (fun x => ((decide (r468.fbase.fHost = x.fk.fbase.fHost)) && ((r468.fbase.fPort == x.fk.fbase.fPort) && ((decide (r468.faddr.fHost = x.fk.faddr.fHost)) && ((r468.faddr.fPort == x.fk.faddr.fPort) && ((r468.fcomponent == x.fk.fcomponent) && true)))))) (fun x => x.fv) false)) ⟨by kernel_rfl, by kernel_rfl, by kernel_rfl, fun _ => by kernel_rfl⟩ (by kernel_rfl) (mlook_map _ _ (fun x : SEnt76 => x.fv) false V.bool)) fun _ =>
       .br 0 (mlook l466.1 (fun x => ((decide (r468.fbase.fHost = x.fk.fbase.fHost)) && ((r468.fbase.fPort == x.fk.fbase.fPort) && ((decide (r468.faddr.fHost = x.fk.faddr.fHost)) && ((r468.faddr.fPort == x.fk.faddr.fPort) && ((r468.fcomponent == x.fk.fcomponent) && true)))))) (fun x => x.fv) false)
       (.done (.inl (l466.1, l466.2.1, (wi64 (l466.2.2 + 1)))))
       (.view 17004 (s29 (SPlanner.mk (SList.mk p0 p1 p2 l466.2.1)) x467) [(VwW.of 700062 tySCandidate p1), (VwW.of 700063 tySCandidate p2), (VwW.of 600024 tySPair l466.2.1)] fun r469 =>
        .opr 17005 (Rule.put (mt := 76) (kt := 78) (et := 4) (z := 1114373) (ty := tySEnt76) (p := (fun x => ((decide (r469.fbase.fHost = x.fk.fbase.fHost)) && ((r469.fbase.fPort == x.fk.fbase.fPort) && ((decide (r469.faddr.fHost = x.fk.faddr.fHost)) && ((r469.faddr.fPort == x.fk.faddr.fPort) && ((r469.fcomponent == x.fk.fcomponent) && true))))))) (kc := [.str r469.fbase.fHost, .int .i64 r469.fbase.fPort, .str r469.faddr.fHost, .int .i64 r469.faddr.fPort, .int .i64 r469.fcomponent]) (.tmp 76) (.tmp 79) (.const (.bool true)) 57 l466.1 (SEnt76.mk r469 true) [.bool true] ⟨by kernel_rfl, by kernel_rfl, by kernel_rfl, fun _ => by kernel_rfl⟩ (by rfl) (by kernel_rfl) (by kernel_rfl) (by decide) (by decide)) fun _ =>
        .app 18009 tySPair l466.2.1 [x467] 32 false (by intro h; cases h) (.gh 0 (.drop [600024]) (.gh 0 (.ren 88 600024) (.done (.inl ((mput l466.1 (fun x => ((decide (r469.fbase.fHost = x.fk.fbase.fHost)) && ((r469.fbase.fPort == x.fk.fbase.fPort) && ((decide (r469.faddr.fHost = x.fk.faddr.fHost)) && ((r469.faddr.fPort == x.fk.faddr.fPort) && ((r469.fcomponent == x.fk.fcomponent) && true)))))) (SEnt76.mk r469 true)), (l466.2.1 ++ [x467]), (wi64 (l466.2.2 + 1)))))))))))
     (.done (.inr l466.2.1)))
    ([], [], 0))
   (fun (e470 : (List SPair)) => Ext.of (.exit 2) [(6, .ptr 6 0 0), (7, .int .i64 0), (8, .ptr 700061 0 0)] [(6, ⟨4, true, [[.bool false, .nilsl, .nilsl, .nilsl]]⟩), (700061, ⟨4, true, [[.bool p0, .ref 700062 0 p1.length, .ref 700063 0 p2.length, .ref 600024 0 e470.length]]⟩)] [BT.of 600024 tySPair 4 e470 true, BT.of 700062 tySCandidate 8 p1 true, BT.of 700063 tySCandidate 8 p2 true] (by rfl))
   (fun e470 =>
    .opr 20001 (Rule.makeMap 80 93 1114370 (by decide)) fun _ =>
    .bind 1
    (.lp (fun (l478 : (List SEnt80) × Int) => Ext.of .normal [(6, .ptr 6 0 0), (7, .int .i64 0), (8, .ptr 700061 0 0), (14, .mp 93), (98, .ref 600024 0 e470.length), (99, .int .i64 (e470.length : Int)), (100, .int .i64 l478.2)] [(6, ⟨4, true, [[.bool false, .nilsl, .nilsl, .nilsl]]⟩), (700061, ⟨4, true, [[.bool p0, .ref 700062 0 p1.length, .ref 700063 0 p2.length, .ref 600024 0 e470.length]]⟩)] [BT.of 93 tySEnt80 1114370 l478.1 true, BT.of 600024 tySPair 4 e470 true, BT.of 700062 tySCandidate 8 p1 true, BT.of 700063 tySCandidate 8 p2 true] (by rfl))
     (fun l478 =>
      .br 0 (decide (l478.2 < (e470.length : Int)))
      (.chk 23002 (decide (0 ≤ l478.2) && decide (l478.2 < (e470.length : Int))) (.row 23003 tySPair e470 (0 + l478.2.toNat) true fun x479 =>
       .view 24003 (s30 (SPlanner.mk (SList.mk p0 p1 p2 e470)) x479) [(VwW.of 700062 tySCandidate p1), (VwW.of 700063 tySCandidate p2), (VwW.of 600024 tySPair e470)] fun r480 =>
       .opr 25003 (Rule.look2 (mt := 80) (kt := 81) (et := 3) (z := 1114370) (ty := tySEnt80) (p := (fun x => ((decide (r480.a0 = x.fk.a0)) && ((decide (r480.a1 = x.fk.a1)) && true)))) (kc := [.str r480.a0, .str r480.a1]) (.tmp 109) (.tmp 110) 111 93 true l478.1 (.int .i64 0) (.int .i64 (mlook l478.1 (fun x => ((decide (r480.a0 = x.fk.a0)) && ((decide (r480.a1 = x.fk.a1)) && true))) (fun x => x.fv) 0)) ⟨by kernel_rfl, by kernel_rfl, by kernel_rfl, fun _ => by kernel_rfl⟩ (by kernel_rfl) (mlook_map _ _ (fun x : SEnt80 => x.fv) 0 (V.int .i64))) fun _ =>
       .cnd 26 [131]
       (.br 26004 (!(l478.1.findIdx? (fun x => ((decide (r480.a0 = x.fk.a0)) && ((decide (r480.a1 = x.fk.a1)) && true)))).isSome)
        (.done true)
        (.view 26006 (s31 (SPlanner.mk (SList.mk p0 p1 p2 e470)) x479) [(VwW.of 700062 tySCandidate p1), (VwW.of 700063 tySCandidate p2), (VwW.of 600024 tySPair e470)] fun r481 =>
         .chk 26014 (decide (0 ≤ (mlook l478.1 (fun x => ((decide (r480.a0 = x.fk.a0)) && ((decide (r480.a1 = x.fk.a1)) && true))) (fun x => x.fv) 0)) && decide ((mlook l478.1 (fun x => ((decide (r480.a0 = x.fk.a0)) && ((decide (r480.a1 = x.fk.a1)) && true))) (fun x => x.fv) 0) < (e470.length : Int))) (.row 26015 tySPair e470 (0 + (mlook l478.1 (fun x => ((decide (r480.a0 = x.fk.a0)) && ((decide (r480.a1 = x.fk.a1)) && true))) (fun x => x.fv) 0).toNat) true fun x482 =>
         .view 26016 (s31 (SPlanner.mk (SList.mk p0 p1 p2 e470)) x482) [(VwW.of 700062 tySCandidate p1), (VwW.of 700063 tySCandidate p2), (VwW.of 600024 tySPair e470)] fun r483 =>
         .done (decide (r481 < r483)))))
       (fun (c484 : Bool) => [.bool c484]) fun c484 =>
       .br 0 c484
       (.opr 27004 (Rule.put (mt := 80) (kt := 81) (et := 3) (z := 1114370) (ty := tySEnt80) (p := (fun x => ((decide (r480.a0 = x.fk.a0)) && ((decide (r480.a1 = x.fk.a1)) && true)))) (kc := [.str r480.a0, .str r480.a1]) (.tmp 132) (.tmp 133) (.tmp 134) 93 l478.1 (SEnt80.mk r480 l478.2) [.int .i64 l478.2] ⟨by kernel_rfl, by kernel_rfl, by kernel_rfl, fun _ => by kernel_rfl⟩ (by rfl) (by kernel_rfl) (by kernel_rfl) (by decide) (by decide)) fun _ =>
        .done (.inl ((mput l478.1 (fun x => ((decide (r480.a0 = x.fk.a0)) && ((decide (r480.a1 = x.fk.a1)) && true))) (SEnt80.mk r480 l478.2)), (wi64 (l478.2 + 1)))))
       (.done (.inl (l478.1, (wi64 (l478.2 + 1)))))))
      (.done (.inr l478.1)))
     ([], 0))
    (fun (e485 : (List SEnt80)) => Ext.of (.exit 4) [(6, .ptr 6 0 0), (7, .int .i64 0), (8, .ptr 700061 0 0), (14, .mp 93)] [(6, ⟨4, true, [[.bool false, .nilsl, .nilsl, .nilsl]]⟩), (700061, ⟨4, true, [[.bool p0, .ref 700062 0 p1.length, .ref 700063 0 p2.length, .ref 600024 0 e470.length]]⟩)] [BT.of 93 tySEnt80 1114370 e485 true, BT.of 600024 tySPair 4 e470 true, BT.of 700062 tySCandidate 8 p1 true, BT.of 700063 tySCandidate 8 p2 true] (by rfl))
    (fun e485 =>
     .gh 1 (.ren 600024 700064) (.gh 1 (.ren 93 700065) (.sub (subWait p0 p1 p2 e470.length e485 e470) fun r486 =>
     .gh 0 (.share (VwW.of 700062 tySCandidate p1) 1) (.gh 0 (.share (VwW.of 700063 tySCandidate p2) 1) (.gh 0 (.share (VwW.part 700064 tySPair r486 e470.length) 1) (.done (0, p0, p1, p2, (r486.take e470.length))))))))))))))))))
theorem k8_1 (p0 : Bool) (p1 : (List SCandidate)) (p2 : (List SCandidate)) : FnB Tryd.prog GG [0, 1, 2, 6, 7, 8, 9, 10, 11, 13, 14, 15, 16, 17, 18, 19, 21, 29, 38, 49, 50, 58, 59, 60, 61, 70, 75, 98, 99, 100, 101, 131, 139] Tryd.f8 [.ref 1000000 0 p1.length, .ref 1000001 0 p2.length, .bool p0] (Ext.of .normal (argTs [.ref 1000000 0 p1.length, .ref 1000001 0 p2.length, .bool p0]) [] [BT.of 1000000 tySCandidate 8 p1 true, BT.of 1000001 tySCandidate 8 p2 true] (by rfl)) (g8_1 p0 p1 p2) (fun (r : Int × Bool × (List SCandidate) × (List SCandidate) × (List SPair)) => .tup [.agg [.bool r.2.1, .sl false 8 (List.map tySCandidate.c r.2.2.1), .sl false 8 (List.map tySCandidate.c r.2.2.2.1), .sl false 4 (List.map tySPair.c r.2.2.2.2)], .int .i64 r.1]) (fun (_ : Int × Bool × (List SCandidate) × (List SCandidate) × (List SPair)) => Ext.of .normal [] [] [] (by rfl)) := by unfold FnB; kernel_rfl
noncomputable def s8_1 (p0 : Bool) (p1 : (List SCandidate)) (p2 : (List SCandidate)) : EV.Spec Tryd.prog GG (Int × Bool × (List SCandidate) × (List SCandidate) × (List SPair)) := .ofFnB 8 [] mixed Tryd.func8 rfl (fun _ => rfl) (k8_1 p0 p1 p2)
noncomputable def g14  : TT (SList × Int) :=
 .call 1001 (s15 1 1 2) [] [] fun r441 =>
 .call 1002 (s15 2 1 1) [] [] fun r442 =>
 .call 1004 (s15 9 9 3) [] [] fun r443 =>
 .call 1006 (s8_1 true [r441, r442] [r443]) [(1000000, 4), (1000001, 6)] [] fun r487 =>
 .done ((SList.mk r487.2.1 r487.2.2.1 r487.2.2.2.1 r487.2.2.2.2), r487.1)
theorem k14  : FnD Tryd.prog GG [0, 1] Tryd.f14 [] (g14) (fun r => .tup [.agg [.bool r.1.fControlling, .sl false 8 (List.map tySCandidate.c r.1.fLocals), .sl false 8 (List.map tySCandidate.c r.1.fRemotes), .sl false 4 (List.map tySPair.c r.1.fPairs)], .int .i64 r.2]) := by unfold FnD; kernel_rfl
noncomputable def s14  : EV.Spec Tryd.prog GG (SList × Int) := .ofFn 14 mixed Tryd.func14 (k14)
end Go.Proofs.YtioobnkmohikjaaDoor
namespace Go.Proofs.YtioobnkmohikjaaDoor
open Go Go.EV
set_option maxRecDepth 100000
open Classical
theorem okCLONEC (l : List SCandidate) (h : l.length ≤ 100000) : SOk (s24 l) (fun _ => True) := by
 show Ok (g24 l) _
 unfold g24
 exact Ok.app (by simp; omega) (Ok.done trivial)
theorem foundE_iff {a : S2String} {e : SEnt80} : ((decide (a.a0 = e.fk.a0)) && ((decide (a.a1 = e.fk.a1)) && true)) = true ↔ a = e.fk := by
 cases a; cases e with | mk k v => cases k; simp
def VK (Z : SList) (M : List SPair) (k : Nat) (z : S2String) (v : Int) : Prop := ∃ (i : Nat) (x : SPair), i < k ∧ v = (i : Int) ∧ M[i]? = some x ∧ foundK Z x = z ∧ ∀ j y, j < k → M[j]? = some y → foundK Z y = z → ¬ (compK Z y < compK Z x ∨ (compK Z y = compK Z x ∧ j < i))
theorem VK.one {Z : SList} {M : List SPair} {k : Nat} {z : S2String} {v w : Int} (h : VK Z M k z v) (h2 : VK Z M k z w) : v = w := by
 obtain ⟨i, x, a1, rfl, a2, a3, a4⟩ := h
 obtain ⟨j, y, b1, rfl, b2, b3, b4⟩ := h2
 have h1 := a4 j y b1 b2 b3
 have h3 := b4 i x a1 a2 a3
 omega
theorem VK.step_other {Z : SList} {M : List SPair} {k : Nat} {x : SPair} (hx : M[k]? = some x) {z : S2String} (hz : z ≠ foundK Z x) (v : Int) : VK Z M (k + 1) z v ↔ VK Z M k z v := by
 constructor
 ·rintro ⟨i, y, a1, a2, a3, a4, a5⟩
  have : i ≠ k := fun e => by subst e; rw [hx] at a3; obtain rfl := Option.some.inj a3; exact hz a4.symm
  exact ⟨i, y, by omega, a2, a3, a4, fun j w hj => a5 j w (by omega)⟩
 ·rintro ⟨i, y, a1, a2, a3, a4, a5⟩
  refine ⟨i, y, by omega, a2, a3, a4, fun j w hj hw hf => ?_⟩
  by_cases e : j < k
  ·exact a5 j w e hw hf
  ·have : j = k := by omega
   subst this
   rw [hx] at hw; obtain rfl := Option.some.inj hw
   exact absurd hf.symm hz
theorem VK.step_new {Z : SList} {M : List SPair} {k : Nat} {x : SPair} (hx : M[k]? = some x) (hn : ∀ i y, i < k → M[i]? = some y → foundK Z y = foundK Z x → (∀ j w, j < k → M[j]? = some w → foundK Z w = foundK Z x → ¬ (compK Z w < compK Z y ∨ (compK Z w = compK Z y ∧ j < i))) → compK Z x < compK Z y)
  (he : ∀ j w, j < k → M[j]? = some w → foundK Z w = foundK Z x → ∃ v, VK Z M k (foundK Z x) v) (v : Int) : VK Z M (k + 1) (foundK Z x) v ↔ v = (k : Int) := by
 have low : ∀ j w, j < k → M[j]? = some w → foundK Z w = foundK Z x → compK Z x < compK Z w := fun j w hj hw hf => by
  obtain ⟨_, i, y, a1, _, a2, a3, a4⟩ := he j w hj hw hf
  have h1 := hn i y a1 a2 a3 a4
  have h2 := a4 j w hj hw hf
  omega
 have self : VK Z M (k + 1) (foundK Z x) (k : Int) := ⟨k, x, by omega, rfl, hx, rfl, fun j w hj hw hf => by
  by_cases e : j < k
  ·have := low j w e hw hf; omega
  ·have : j = k := by omega
   subst this
   rw [hx] at hw; obtain rfl := Option.some.inj hw
   omega⟩
 exact ⟨fun h => h.one self, fun h => h ▸ self⟩
theorem VK.step_keep {Z : SList} {M : List SPair} {k : Nat} {x : SPair} (hx : M[k]? = some x) {i : Nat} {y : SPair} (hi : i < k) (hy : M[i]? = some y) (hf : foundK Z y = foundK Z x) (hm : ∀ j w, j < k → M[j]? = some w → foundK Z w = foundK Z x → ¬ (compK Z w < compK Z y ∨ (compK Z w = compK Z y ∧ j < i))) (hc : ¬ compK Z x < compK Z y) (v : Int) :
  VK Z M (k + 1) (foundK Z x) v ↔ VK Z M k (foundK Z x) v := by
 have old : VK Z M k (foundK Z x) (i : Int) := ⟨i, y, hi, rfl, hy, hf, hm⟩
 have new : VK Z M (k + 1) (foundK Z x) (i : Int) := ⟨i, y, by omega, rfl, hy, hf, fun j w hj hw hfw => by
  by_cases e : j < k
  ·exact hm j w e hw hfw
  ·have : j = k := by omega
   subst this
   rw [hx] at hw; obtain rfl := Option.some.inj hw
   omega⟩
 exact ⟨fun h => h.one new ▸ old, fun h => h.one old ▸ new⟩
theorem okCOMP (l : SList) (x : SPair) (h : InB l x) : SOk (s31 (SPlanner.mk l) x) (fun r => r = compK l x) := by
 show Ok (g31 (SPlanner.mk l) x) _
 unfold g31
 exact Ok.row h.lc h.loc (Ok.done rfl)
theorem likeE_iff {a : SLike} {e : SEnt76} : ((decide (a.fbase.fHost = e.fk.fbase.fHost)) && ((a.fbase.fPort == e.fk.fbase.fPort) && ((decide (a.faddr.fHost = e.fk.faddr.fHost)) && ((a.faddr.fPort == e.fk.faddr.fPort) && ((a.fcomponent == e.fk.fcomponent) && true))))) = true ↔ a = e.fk := likeP_iff
theorem okMAKE (l r : List SCandidate) (c : Bool) : SOk (s8 l r c) (MakeR l r c) := by
 show Ok (g8 l r c) _
 unfold g8
 simp only [mlen_eq]
 refine Ok.cnd (R := fun b => (b = true ↔ 12 < l.length ∨ 12 < r.length)) ?_ fun b hb => ?_
 ·refine Ok.br (fun h => Ok.done ?_) (fun h => Ok.done ?_)
  ·simp only [decide_eq_true_eq] at h; exact ⟨fun _ => .inl (by omega), fun _ => rfl⟩
  ·simp only [decide_eq_false_iff_not] at h
   rw [decide_eq_true_eq]
   omega
 refine Ok.br (fun h => Ok.done (by unfold MakeR; rw [if_pos (hb.1 h)])) (fun h => ?_)
 have hlen : ¬ (12 < l.length ∨ 12 < r.length) := fun h2 => by rw [hb.2 h2] at h; simp at h
 refine Ok.cnd (R := fun b => (b = true ↔ ¬ (CandsOk l ∧ CandsOk r))) ?_ fun b2 hb2 => ?_
 ·refine Ok.call (okCANDS l (by omega)) fun a ha => Ok.br (fun h1 => Ok.done ?_) (fun h1 => Ok.call (okCANDS r (by omega)) fun a2 ha2 => Ok.done ?_)
  ·simp only [Bool.not_eq_true'] at h1
   exact ⟨fun _ h2 => by rw [ha.2 h2.1] at h1; simp at h1, fun _ => rfl⟩
  ·simp only [Bool.not_eq_false'] at h1
   rw [Bool.not_eq_true', Bool.eq_false_iff, ne_eq, ha2]
   exact ⟨fun h2 h3 => h2 h3.2, fun h2 h3 => h2 ⟨ha.1 h1, h3⟩⟩
 refine Ok.br (fun h2 => Ok.done (by unfold MakeR; rw [if_neg hlen, if_pos (hb2.1 h2)])) (fun h2 => ?_)
 have hok : CandsOk l ∧ CandsOk r := Classical.byContradiction fun hn => by rw [hb2.2 hn] at h2; simp at h2
 have hF : (fitsL ⟨c, l, r, []⟩ l.length).length ≤ l.length * r.length := fitsL_len (Z := ⟨c, l, r, []⟩) l.length
 have hF2 : l.length * r.length ≤ 12 * 12 := Nat.mul_le_mul (by omega) (by omega)
 refine Ok.call (okCLONEC l (by omega)) fun _ _ => Ok.call (okCLONEC r (by omega)) fun _ _ => Ok.gh (Ok.gh (Ok.gh (Ok.gh (Ok.sub (S := subPairs c l r) (pairsM_eq c l r hok.1 hok.2 (by omega) (by omega)) ?_))))
 refine Ok.call (okSORTF _ (fitsL_ix _) (by omega)) fun S hS => Ok.opr rfl (Ok.gh ?_)
 have hSl : S.length = (fitsL ⟨c, l, r, []⟩ l.length).length := hS.1.length_eq
 have hSI : ∀ x, x ∈ S → ∀ L, InB ⟨c, l, r, L⟩ x := fun x hx L => by
  obtain ⟨i, j, i1, i2, _, rfl⟩ := fitsL_mem.1 (hS.1.mem_iff.1 hx)
  have i2' : j < r.length := i2
  exact ⟨⟨by show (0 : Int) ≤ (i : Int); omega, by show (i : Int) < (l.length : Int); omega⟩, ⟨by show (0 : Int) ≤ (j : Int); omega, by show (j : Int) < (r.length : Int); omega⟩⟩
 rw [← hSl]
 refine Ok.bind (R := fun e => e = pruneL ⟨c, l, r, []⟩ S S.length) ?_ fun M hM => ?_
 ·refine Ok.scan S.length (by omega) (fun k y => y.2.2 = (k : Int) ∧ y.2.1 = pruneL ⟨c, l, r, []⟩ S k ∧ ∃ ks, SetOf SEnt76.fk SEnt76.fv y.1 ks ∧ ∀ z, z ∈ ks ↔ ∃ j w, j < k ∧ S[j]? = some w ∧ likeK ⟨c, l, r, []⟩ w = z) ⟨rfl, rfl, [], SetOf.nil _ _, fun z => ⟨fun h => by simp at h, fun ⟨j, w, h, _⟩ => by omega⟩⟩ (fun k y hy hk => ?_) (fun y hy => ?_)
  ·obtain ⟨hi, hp, ks, hs, hz⟩ := hy
   obtain ⟨y1, y2, y3⟩ := y
   simp only at hi hp hs
   subst hi hp
   have hle := pruneL_le ⟨c, l, r, []⟩ S k
   obtain ⟨x, hx1, hx2⟩ := get_lt hk
   have hxI := hSI x (List.mem_of_getElem? hx2)
   have hstep : pruneL ⟨c, l, r, []⟩ S (k + 1) = if LikeBefore ⟨c, l, r, []⟩ S k x ∨ 36 ≤ (pruneL ⟨c, l, r, []⟩ S k).length then pruneL ⟨c, l, r, []⟩ S k else pruneL ⟨c, l, r, []⟩ S k ++ [x] := by
    rw [show pruneL ⟨c, l, r, []⟩ S (k + 1) = (match S[k]? with
     | some x => if LikeBefore ⟨c, l, r, []⟩ S k x ∨ 36 ≤ (pruneL ⟨c, l, r, []⟩ S k).length then pruneL ⟨c, l, r, []⟩ S k else pruneL ⟨c, l, r, []⟩ S k ++ [x]
     | none => pruneL ⟨c, l, r, []⟩ S k) from rfl, hx2]
   have hup : ∀ z, (∃ j w, j < k + 1 ∧ S[j]? = some w ∧ likeK ⟨c, l, r, []⟩ w = z) ↔ (∃ j w, j < k ∧ S[j]? = some w ∧ likeK ⟨c, l, r, []⟩ w = z) ∨ likeK ⟨c, l, r, []⟩ x = z := fun z => by
    constructor
    ·rintro ⟨j, w, h1, h2, h3⟩
     by_cases e : j < k
     ·exact .inl ⟨j, w, e, h2, h3⟩
     ·have : j = k := by omega
      subst this
      rw [hx2] at h2
      obtain rfl := Option.some.inj h2
      exact .inr h3
    ·rintro (⟨j, w, h1, h2, h3⟩ | h)
     ·exact ⟨j, w, by omega, h2, h3⟩
     ·exact ⟨k, x, by omega, hx2, h⟩
   refine Ok.br (fun _ => ?_) (fun hc => by simp at hc; omega)
   refine Ok.chk (inP hk) (Ok.row rfl (by rw [Nat.zero_add]; exact hx1) (Ok.br (fun h3 => Ok.done ?_) (fun h3 => ?_)))
   ·have h36 : (pruneL ⟨c, l, r, []⟩ S k).length = 36 := by
     rw [beq_iff_eq] at h3; have h3' : ((pruneL ⟨c, l, r, []⟩ S k).length : Int) = 36 := h3; omega
    exact (pruneL_stay h36 S.length (by omega)).symm
   ·have h36 : ¬ 36 ≤ (pruneL ⟨c, l, r, []⟩ S k).length := by
     rw [beq_eq_false_iff_ne] at h3; have h3' : ((pruneL ⟨c, l, r, []⟩ S k).length : Int) ≠ 36 := h3; omega
    refine Ok.view (okLIKE _ x (hxI _)) fun q hq => Ok.opr rfl (Ok.br (fun h4 => Ok.done ?_) (fun h4 => ?_))
    ·have hqk : q = likeK ⟨c, l, r, []⟩ x := hq
     have hin := (hs.look (x := q) (fun e => likeE_iff)).1 h4
     rw [hqk] at hin
     refine ⟨wi64_nat hk (by omega), ?_, ks, hs, fun z => ?_⟩
     ·rw [hstep, if_pos (.inl ((hz _).1 hin))]
     ·rw [hup, ← hz]
      exact ⟨.inl, fun h => h.elim id fun e => e ▸ hin⟩
    ·have hqk : q = likeK ⟨c, l, r, []⟩ x := hq
     have hnot : likeK ⟨c, l, r, []⟩ x ∉ ks := fun hin => by
      have := (hs.look (x := q) (fun e => likeE_iff)).2 (by rw [hqk]; exact hin)
      rw [this] at h4; simp at h4
     refine Ok.view (okLIKE _ x (hxI _)) fun q2 hq2 => Ok.opr rfl (Ok.app (by simp; omega) (Ok.gh (Ok.gh (Ok.done ?_))))
     have hq2k : q2 = likeK ⟨c, l, r, []⟩ x := hq2
     refine ⟨wi64_nat hk (by omega), ?_, ks ++ [q2], hs.put (x := q2) (fun e => likeE_iff) rfl rfl, fun z => ?_⟩
     ·show pruneL ⟨c, l, r, []⟩ S k ++ [x] = _
      rw [hstep, if_neg]
      rintro (h5 | h5)
      ·exact hnot ((hz _).2 h5)
      ·exact h36 h5
     ·rw [hup, ← hz, List.mem_append, List.mem_singleton, hq2k]
      exact or_congr Iff.rfl ⟨fun h => h.symm, fun h => h.symm⟩
  ·obtain ⟨hi, hp, ks, hs, hz⟩ := hy
   obtain ⟨y1, y2, y3⟩ := y
   simp only at hi hp hs
   subst hi hp
   exact Ok.br (fun hc => by simp at hc) (fun hc => Ok.done rfl)
 ·subst hM
  have hM36 := pruneL_le ⟨c, l, r, []⟩ S S.length
  have hMI : ∀ x, x ∈ pruneL ⟨c, l, r, []⟩ S S.length → ∀ L, InB ⟨c, l, r, L⟩ x := fun x hx => hSI x (pruneL_mem hx)
  have done : ∀ ps, WokeL ⟨c, l, r, []⟩ (pruneL ⟨c, l, r, []⟩ S S.length) ps → MakeR l r c (⟨c, l, r, ps⟩, 0) := fun ps hw => by
   unfold MakeR
   rw [if_neg hlen, if_neg (fun h => h hok)]
   exact ⟨ps, rfl, S, hS, hw⟩
  generalize pruneL ⟨c, l, r, []⟩ S S.length = M at *
  refine Ok.opr rfl (Ok.bind (R := fun e => MapOf SEnt80.fk SEnt80.fv e (VK ⟨c, l, r, []⟩ M M.length)) ?_ fun e he => ?_)
  ·refine Ok.scan M.length (by omega) (fun k y => y.2 = (k : Int) ∧ MapOf SEnt80.fk SEnt80.fv y.1 (VK ⟨c, l, r, []⟩ M k) ∧ ∀ j w, j < k → M[j]? = some w → ∃ v, VK ⟨c, l, r, []⟩ M k (foundK ⟨c, l, r, []⟩ w) v) ⟨rfl, ?_, fun j w h => by omega⟩ (fun k y hy hk => ?_) (fun y hy => ?_)
   ·have e0 : VK ⟨c, l, r, []⟩ M 0 = fun _ _ => False := by
     funext z v
     exact propext ⟨fun ⟨i, _, h, _⟩ => by omega, fun h => h.elim⟩
    rw [e0]; exact MapOf.nil _ _
   ·obtain ⟨hi, hm, hex⟩ := hy
    obtain ⟨y1, y2⟩ := y
    simp only at hi hm
    subst hi
    obtain ⟨x, hx1, hx2⟩ := get_lt hk
    have hxI := hMI x (List.mem_of_getElem? hx2)
    refine Ok.br (fun _ => ?_) (fun hc => by simp at hc; omega)
    refine Ok.chk (inP hk) (Ok.row rfl (by rw [Nat.zero_add]; exact hx1) (Ok.view (okFOUND _ x (hxI _)) fun q hq => Ok.opr rfl ?_))
    have hqk : q = foundK ⟨c, l, r, []⟩ x := hq
    subst hqk
    have hfind := hm.find (x := foundK ⟨c, l, r, []⟩ x) (fun e => foundE_iff) (0 : Int)
    refine Ok.cnd (R := fun b => (b = true → ∀ v, VK ⟨c, l, r, []⟩ M (k + 1) (foundK ⟨c, l, r, []⟩ x) v ↔ v = (k : Int)) ∧ (b = false → (∃ v, VK ⟨c, l, r, []⟩ M k (foundK ⟨c, l, r, []⟩ x) v) ∧ ∀ v, VK ⟨c, l, r, []⟩ M (k + 1) (foundK ⟨c, l, r, []⟩ x) v ↔ VK ⟨c, l, r, []⟩ M k (foundK ⟨c, l, r, []⟩ x) v)) ?_ fun b hb => ?_
    ·refine Ok.br (fun h3 => Ok.done ⟨fun _ => ?_, fun h => by simp at h⟩) (fun h3 => ?_)
     ·simp only [Bool.not_eq_true'] at h3
      have no : ∀ v, ¬ VK ⟨c, l, r, []⟩ M k (foundK ⟨c, l, r, []⟩ x) v := fun v hv => by
       rw [hfind.1.2 ⟨v, hv⟩] at h3; simp at h3
      exact VK.step_new hx2 (fun i y a1 a2 a3 a4 => absurd ⟨i, y, a1, rfl, a2, a3, a4⟩ (no (i : Int))) (fun j w hj hw hf => hf ▸ hex j w hj hw)
     ·simp only [Bool.not_eq_false'] at h3
      obtain ⟨v0, hv0⟩ := hfind.1.1 h3
      have hl0 := hfind.2 v0 hv0
      obtain ⟨i, y, a1, rfl, a2, a3, a4⟩ := hv0
      rw [hl0]
      refine Ok.view (okCOMP _ x (hxI _)) fun r1 hr1 => Ok.chk (inP (by omega)) (Ok.row rfl (by rw [Nat.zero_add, Int.toNat_natCast]; exact a2) (Ok.view (okCOMP _ y (hMI y (List.mem_of_getElem? a2) _)) fun r2 hr2 => Ok.done ?_))
      have e1 : r1 = compK ⟨c, l, r, []⟩ x := hr1
      have e2 : r2 = compK ⟨c, l, r, []⟩ y := hr2
      rw [e1, e2]
      refine ⟨fun h => VK.step_new hx2 (fun i' y' b1 b2 b3 b4 => ?_) (fun j w hj hw hf => hf ▸ hex j w hj hw), fun h => ⟨⟨(i : Int), i, y, a1, rfl, a2, a3, a4⟩, VK.step_keep hx2 a1 a2 a3 a4 (by simpa using h)⟩⟩
      have h5 : compK ⟨c, l, r, []⟩ x < compK ⟨c, l, r, []⟩ y := by simpa using h
      have := a4 i' y' b1 b2 b3
      omega
    ·have other : ∀ z v, z ≠ foundK ⟨c, l, r, []⟩ x → (VK ⟨c, l, r, []⟩ M (k + 1) z v ↔ VK ⟨c, l, r, []⟩ M k z v) := fun z v hz => VK.step_other hx2 hz v
     have ex2 : (∃ v, VK ⟨c, l, r, []⟩ M (k + 1) (foundK ⟨c, l, r, []⟩ x) v) → ∀ j w, j < k + 1 → M[j]? = some w → ∃ v, VK ⟨c, l, r, []⟩ M (k + 1) (foundK ⟨c, l, r, []⟩ w) v := fun hx j w hj hw => by
      by_cases e : foundK ⟨c, l, r, []⟩ w = foundK ⟨c, l, r, []⟩ x
      ·rw [e]; exact hx
      ·have hjk : j < k := by
        rcases Nat.lt_or_ge j k with h | h
        ·exact h
        ·have : j = k := by omega
         subst this
         rw [hx2] at hw; obtain rfl := Option.some.inj hw
         exact absurd rfl e
       obtain ⟨v, hv⟩ := hex j w hjk hw
       exact ⟨v, (other _ v e).2 hv⟩
     refine Ok.br (fun h3 => Ok.opr rfl (Ok.done ⟨wi64_nat hk (by omega), ?_, ex2 ⟨(k : Int), (hb.1 h3 _).2 rfl⟩⟩)) (fun h3 => Ok.done ⟨wi64_nat hk (by omega), ?_, ?_⟩)
     ·have key := hm.put (x := foundK ⟨c, l, r, []⟩ x) (fun e => foundE_iff) (y := SEnt80.mk (foundK ⟨c, l, r, []⟩ x) (k : Int)) rfl
      have e3 : (fun z v => (z = foundK ⟨c, l, r, []⟩ x ∧ v = (k : Int)) ∨ (z ≠ foundK ⟨c, l, r, []⟩ x ∧ VK ⟨c, l, r, []⟩ M k z v)) = VK ⟨c, l, r, []⟩ M (k + 1) := by
       funext z v
       refine propext ?_
       by_cases e : z = foundK ⟨c, l, r, []⟩ x
       ·subst e
        rw [hb.1 h3]
        exact ⟨fun h => h.elim (fun h => h.2) (fun h => absurd rfl h.1), fun h => .inl ⟨rfl, h⟩⟩
       ·rw [other z v e]
        exact ⟨fun h => h.elim (fun h => absurd h.1 e) (fun h => h.2), fun h => .inr ⟨e, h⟩⟩
      rw [← e3]; exact key
     ·have e3 : VK ⟨c, l, r, []⟩ M (k + 1) = VK ⟨c, l, r, []⟩ M k := by
       funext z v
       refine propext ?_
       by_cases e : z = foundK ⟨c, l, r, []⟩ x
       ·subst e; exact (hb.2 h3).2 v
       ·exact other z v e
      show MapOf _ _ y1 _
      rw [e3]; exact hm
     ·obtain ⟨v, hv⟩ := (hb.2 h3).1
      exact ex2 ⟨v, ((hb.2 h3).2 v).2 hv⟩
   ·obtain ⟨hi, hm, hex⟩ := hy
    obtain ⟨y1, y2⟩ := y
    simp only at hi hm
    subst hi
    exact Ok.br (fun hc => by simp at hc) (fun hc => Ok.done hm)
  ·obtain ⟨ps, p1, p2, p3⟩ := wAll_eq (m := M.length) e M rfl (fun e' he' => by
    obtain ⟨i, _, a1, a2, _⟩ := (he.val (SEnt80.fk e') (SEnt80.fv e')).2 ⟨e', he', rfl, rfl⟩
    exact ⟨i, a2, a1⟩)
   refine Ok.gh (Ok.gh (Ok.sub (S := subWait c l r M.length e M) p1 (Ok.gh (Ok.gh (Ok.gh (Ok.done ?_))))))
   rw [List.take_of_length_le (by omega)]
   refine done ps ⟨p2, fun i x hx => ?_⟩
   rw [p3 i x hx]
   have hil := (List.getElem?_eq_some_iff.1 hx).1
   have key : (∃ e', e' ∈ e ∧ e'.fv = (i : Int)) ↔ FirstW ⟨c, l, r, []⟩ M i x := by
    constructor
    ·rintro ⟨e', h1, h2⟩
     obtain ⟨i', y, a1, a2, a3, a4, a5⟩ := (he.val (SEnt80.fk e') (SEnt80.fv e')).2 ⟨e', h1, rfl, rfl⟩
     have : i' = i := by rw [h2] at a2; omega
     subst this
     rw [hx] at a3; obtain rfl := Option.some.inj a3
     exact fun j w hw hf => a5 j w (List.getElem?_eq_some_iff.1 hw).1 hw (hf.trans a4)
    ·intro hw
     obtain ⟨e', h1, h2, h3⟩ := (he.val (foundK ⟨c, l, r, []⟩ x) (i : Int)).1 ⟨i, x, hil, rfl, hx, rfl, fun j w _ hj hf => hw j w hj hf⟩
     exact ⟨e', h1, h3⟩
   simp only [key]
end Go.Proofs.YtioobnkmohikjaaDoor
namespace Go.Proofs.YtioobnkmohikjaaDoor
open Go Go.EV
set_option maxRecDepth 100000
noncomputable def g6  : TT (Bool) :=
 .call 1001 s14 [] [] fun r488 =>
 .call 2002 (s17 r488.1) [] [] fun r489 =>
 .call 3002 (s16 r488.1 0 2) [] [] fun r490 =>
 .call 4002 (s17 r490.1) [] [] fun r491 =>
 .call 5002 (s12 r488.1) [] [] fun r492 =>
 .call 6002 (s18 r488.1) [] [] fun r493 =>
 .cnd 7 [0]
 (.br 7004 (r488.2 == 0)
  (.br 7010 ((mlen tySPair r488.1.fPairs) == 2)
   (.call 7011 (s21 r488.1 0 0 0 1) [] [] fun r494 =>
    .br 7014 r494
    (.call 7015 (s21 r488.1 1 1 0 1) [] [] fun r495 =>
     .br 7018 r495
     (.br 7022 (r489.2 == 0)
      (.br 7026 (r489.1 == 0)
       (.br 7030 (r490.2 == 0)
        (.br 7034 (r491.2 == 0)
         (.br 7038 (r491.1 == 1)
          (.br 7042 (r492.2 == 0)
           (.br 7047 (!r492.1.fControlling)
            (.br 7051 (r493.2 == 0)
             (.br 7055 (!r493.1)
              (.call 7056 (s19 r488.1) [] [] fun r496 =>
               .br 7060 (r496 == 0)
               (.view 7063 (s19 (SList.mk false [] [] [(SPair.mk 0 0 0 0)])) [] fun r497 =>
                .done (r497 == 100))
               (.done false))
              (.done false))
             (.done false))
            (.done false))
           (.done false))
          (.done false))
         (.done false))
        (.done false))
       (.done false))
      (.done false))
     (.done false))
    (.done false))
   (.done false))
  (.done false))
 (fun (c498 : Bool) => [.bool c498]) fun c498 =>
 .done c498
theorem k6  : FnD Tryd.prog GG [0, 1, 2, 3, 4, 5, 6, 7, 8, 9, 10, 11, 12] Tryd.f6 [] (g6) (fun r => .bool r) := by unfold FnD; kernel_rfl
noncomputable def s6  : EV.Spec Tryd.prog GG (Bool) := .ofFn 6 mixed Tryd.func6 (k6)
end Go.Proofs.YtioobnkmohikjaaDoor
namespace Go.Proofs.YtioobnkmohikjaaDoor
open Go Go.EV
set_option maxRecDepth 100000
end Go.Proofs.YtioobnkmohikjaaDoor
namespace Go.Proofs.YtioobnkmohikjaaDoor
open Go Go.EV
set_option maxRecDepth 1000000
theorem okWAKES : SOk s6 (fun r => r = true) := SOk.of (by kernel_rfl)
end Go.Proofs.YtioobnkmohikjaaDoor
