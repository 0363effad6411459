/- The value-level logic: slices made with their length; octets of a typed block as a text; no conditions but those that the rules name.
   What a guide is worth, by rules: 'Ok g Q' says that the guide comes to a result of which Q holds. No conditions. -/
import Derived.Test.YtdiagiflihpidaaDoorS6
import Derived.Laws.MakeOwn
import Derived.Test.YtdiagiflihpidaaDoorS5
import Derived.KernelRfl
namespace Go.EV
open Go
def Rule.makeNums {P : Program} {G : Nat → Option (List V)} {ty : Ty Int} {t e : TypeId} {k : IntKind} (ol oc : Operand) (d n : Nat) (by_ : Nat) (ht : P.underlying t = some (.slice e))
    (hi : (P.info? e).map (fun i => (i.size, i.bytes)) = some (1, by_)) (hz : (P.info? e).bind TypeInfo.zero = some (.int k 0)) (hb : by_ * n ≤ 281474976710656 ∧ n ≤ 9223372036854775807) (hc : ∀ x, ty.c x = [.int k x]) : Rule P G Unit where
  op := .makeSlice t ol oc
  dst := some d
  vals := [(ol, .int .i64 (n : Int)), (oc, .int .i64 (n : Int))]
  blks := []
  o := some ()
  ws := fun _ => [.b d (some ⟨1, true, (List.replicate n (0 : Int)).map ty.c⟩), .t d (.ref d 0 n)]
  dt := [d]
  dat := fun _ i k h _ => by
    simp only [List.mem_cons, Wr.b.injEq, Option.some.injEq, reduceCtorEq, List.not_mem_nil, or_false] at h
    rw [h.2]; exact ty.data _
  ok := fun _ _ x st hop hdst hvs _ hd => effO_value fun γ a w hs => by
    obtain ⟨h1, h2⟩ := hd d rfl
    obtain ⟨i, hi1, hi2⟩ := Option.map_eq_some_iff.1 hi
    simp only [Prod.mk.injEq] at hi2
    obtain ⟨s1, s2⟩ := hi2
    have hz' : i.zero = some (.int k 0) := by rw [hi1] at hz; exact hz
    have e1 : a.eval ol = .int .i64 (n : Int) := (hvs (ol, .int .i64 (n : Int)) (by simp) γ a w hs).int_inv
    have e2 : a.eval oc = .int .i64 (n : Int) := (hvs (oc, .int .i64 (n : Int)) (by simp) γ a w hs).int_inv
    have hrun := run_make (P := P) w t e i (.int k 0) ht hi1 hz' .i64 .i64 (n : Int) (n : Int) (by omega) (by omega) (by rw [s2]; have := hb.1; omega) (by omega)
    have hrows : (List.replicate n (0 : Int)).map ty.c = List.replicate n [V.int k 0] := by rw [List.map_replicate, hc]
    have hcell : ∀ j (c : V), ((List.replicate n (0 : Int)).map ty.c).flatten[j]? = some c → j < n ∧ c = .int k 0 := fun j c hj => by
      rw [hrows] at hj
      have hl : (List.replicate n [V.int k 0]).flatten = List.replicate n (V.int k 0) := by
        induction n with
        | zero => rfl
        | succ m ih => simp [List.replicate_succ, List.flatten_cons]
      rw [hl] at hj
      obtain ⟨a1, a2⟩ := List.getElem?_eq_some_iff.1 hj
      simp only [List.length_replicate] at a1
      simp only [List.getElem_replicate] at a2
      exact ⟨a1, a2.symm⟩
    have sz : (madeCells (Value.int k 0).cells ((n : Int).toNat * i.size)).size = n := by rw [size_madeCells, s1]; simp
    have key := hs.newBlk (d := d) (size := 1) (rows := (List.replicate n (0 : Int)).map ty.c) (cs := madeCells (Value.int k 0).cells ((n : Int).toNat * i.size)) (e := e) (w1 := { w with heap := w.heap.push (.cells (madeCells (Value.int k 0).cells ((n : Int).toNat * i.size)) e) }) (by decide) h2 rfl ⟨rfl, rfl, rfl⟩
      (fun r hr => by rw [hrows] at hr; rw [(List.mem_replicate.1 hr).2]; rfl) (by rw [sz]; simp) (fun j c hj => by
        obtain ⟨j1, rfl⟩ := hcell j c hj
        refine ⟨.int k 0, ?_, .data (.int k 0), rfl, rfl⟩
        unfold madeCells
        rw [Array.getElem?_map]
        have hlt : j < (n : Int).toNat * i.size := by rw [s1]; simpa using j1
        have : (Array.range ((n : Int).toNat * i.size))[j]? = some j := by rw [Array.getElem?_range, if_pos hlt]
        rw [this]
        have hcs : (Value.int k 0).cells = #[.int k 0] := rfl
        simp only [Option.map_some, Option.some.injEq, hcs]
        have : j % (#[Value.int k 0] : Array Value).size = 0 := Nat.mod_one j
        rw [this]; rfl)
    refine ⟨.slice (some ⟨w.heap.size, 0, none⟩) n n, _, γ.add d w.heap.size, ?_, key.2.1, key.2.2.pin, ?_⟩
    · have e3 : (execOp a.eval x) = (do let v ← Instr.makeSlice t (a.eval ol) (a.eval oc); pure (.value v) : Sem Next) := by unfold execOp; rw [hop]
      rw [e3, Sem.run_bind, e1, e2, hrun]
      rfl
    · rw [hdst]
      have hb' := key.1.put (a := a) (dst := some d) (c := .ref d 0 n) (v := .slice (some ⟨w.heap.size, 0, none⟩) n n) (by simpa [dstOk, St.setB] using h1) (by
        have := Rep.ref (γ := γ.add d w.heap.size) (w := { w with heap := w.heap.push (.cells (madeCells (Value.int k 0).cells ((n : Int).toNat * i.size)) e) }) (bs := (st.setB d ⟨1, true, (List.replicate n (0 : Int)).map ty.c⟩).b) (u := (st.setB d ⟨1, true, (List.replicate n (0 : Int)).map ty.c⟩).u)
          d 0 n w.heap.size 0 n ⟨1, true, (List.replicate n (0 : Int)).map ty.c⟩ (by simp [St.setB]) (by simp [Gh.add]) (by simp) (Nat.le_refl _) ⟨madeCells (Value.int k 0).cells ((n : Int).toNat * i.size), e, (0, 0), Array.getElem?_push_size, by rw [sz]; simp⟩ (by show 1 < MAPS; decide) (by simp)
        simpa using this)
      exact hb'
theorem rowsN_map {ty : Ty Int} (hc : ∀ x, ty.c x = [.int .u8 x]) : ∀ l : List Int, rowsN (l.map ty.c) = some l
 | [] => rfl
 | x :: l => by
  simp only [List.map_cons, rowsN, hc, rowN, rowsN_map hc l]
def Rule.textOf {P : Program} {G : Nat → Option (List V)} {ty : Ty Int} {s t e : TypeId} (ox : Operand) (d b : Nat) (l : List Int) (n : Nat) (hs : P.underlying s = some (.slice e)) (ht : P.underlying t = some .string) (he : P.underlying e = some (.int .u8)) (hn : l.length = n) (hc : ∀ x, ty.c x = [.int .u8 x]) : Rule P G Unit where
 op := .convert s t ox
 dst := some d
 vals := [(ox, .ref b 0 n)]
 blks := [(b, ⟨1, true, l.map ty.c⟩)]
 o := some ()
 ws := fun _ => [.t d (.str (strOfNums l))]
 dt := []
 dat := fun _ _ _ _ h => by simp at h
 ok := fun _ _ x st hop hdst hvs hb hd => effO_value fun γ a w hs' => by
  have hx := hvs (ox, .ref b 0 n) (by simp) γ a w hs'
  have hk := hb (b, ⟨1, true, l.map ty.c⟩) (by simp)
  have hcv : convL P st.b s t (.ref b 0 n) = some (.str (strOfNums l)) := by
   simp only [convL, hs, ht, he, hk]
   rw [if_pos ⟨trivial, by simp [hn]⟩, List.drop_zero, ← hn, ← List.length_map (f := ty.c), List.take_length, rowsN_map hc]
   rfl
  obtain ⟨v, h1, h2⟩ := run_convL hs' hcv hx
  refine ⟨v, w, γ, ?_, .refl γ w, .refl hs'.u, ?_⟩
  ·have e3 : (execOp a.eval x) = (do let v ← convert s t (a.eval ox); pure (.value v) : Sem Next) := by unfold execOp; rw [hop]
   rw [e3, Sem.run_bind, h1]
   rfl
  ·rw [hdst]
   exact hs'.put (a := a) (dst := some d) (by simpa [dstOk] using (hd d rfl).1) h2
end Go.EV
namespace Go.EV
open Go
def Ok {P : Program} {G : Nat → Option (List V)} {ρ : Type} (g : T P G ρ) (Q : ρ → Prop) : Prop := ∃ r, g.run = some r ∧ Q r
def SOk {P : Program} {G : Nat → Option (List V)} {ρ : Type} (s : Spec P G ρ) (Q : ρ → Prop) : Prop := ∃ r, s.o = some r ∧ Q r
section
variable {P : Program} {G : Nat → Option (List V)} {ρ : Type} {Q : ρ → Prop}
theorem SOk.of {s : Spec P G ρ} {r : ρ} (h : s.o = some r) : SOk s (fun x => x = r) := ⟨r, h, rfl⟩
theorem SOk.eq {s : Spec P G ρ} {r : ρ} (h : SOk s (fun x => x = r)) : s.o = some r := by obtain ⟨x, h1, rfl⟩ := h; exact h1
theorem Ok.done {r : ρ} (h : Q r) : Ok (.done r : T P G ρ) Q := ⟨r, rfl, h⟩
theorem Ok.br {a : Nat} {c : Bool} {x y : T P G ρ} (h1 : c = true → Ok x Q) (h2 : c = false → Ok y Q) : Ok (.br a c x y) Q := by
 cases c with
 | true => obtain ⟨r, e, hq⟩ := h1 rfl; exact ⟨r, e, hq⟩
 | false => obtain ⟨r, e, hq⟩ := h2 rfl; exact ⟨r, e, hq⟩
theorem Ok.tt {k : T P G ρ} (h : Ok k Q) : Ok (.tt k) Q := h
theorem Ok.ff {k : T P G ρ} (h : Ok k Q) : Ok (.ff k) Q := h
theorem Ok.gh {a : Nat} {w : GhW} {k : T P G ρ} (h : Ok k Q) : Ok (.gh a w k) Q := h
theorem Ok.call {α : Type} {a : Nat} {s : Spec P G α} {Li Lo : List (Nat × Nat)} {k : α → T P G ρ} {R : α → Prop} (hs : SOk s R) (h : ∀ r, R r → Ok (k r) Q) : Ok (.call a s Li Lo k) Q := by
 obtain ⟨x, e1, hr⟩ := hs
 obtain ⟨r, e, hq⟩ := h x hr
 exact ⟨r, by simp only [T.run, e1]; exact e, hq⟩
theorem Ok.cnd {ε : Type} {id : Nat} {ts : List Nat} {first : T P G ε} {E : ε → List V} {k : ε → T P G ρ} {R : ε → Prop} (hf : Ok first R) (h : ∀ e, R e → Ok (k e) Q) : Ok (.cnd id ts first E k) Q := by
 obtain ⟨x, e1, hr⟩ := hf
 obtain ⟨r, e, hq⟩ := h x hr
 exact ⟨r, by simp only [T.run, e1]; exact e, hq⟩
end
end Go.EV
