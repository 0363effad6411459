/- The listed variable opened; what a call may change: nothing of what was there.
   Arguments opened: what comes in reads as typed data. Conditions: none but that it reads at all. -/
import Derived.Test.YtdiagiflihpidaaDoorC1
import Derived.Test.YtdiagiflihpidaaDoorRows
import Derived.ChangeSame
import Derived.ChangeVars
import Derived.JoinedOf
import Derived.RowKit
import Derived.ProofKit
import Derived.LaidMore
import Derived.OpenShut
import Derived.Stop.Joined
import Derived.ChangeArms
import Derived.DataReads
import Derived.Carry
import Derived.KernelRfl

namespace Go.Proofs.YtdiagiflihpidaaDoor
open Go Go.EV
set_option maxRecDepth 100000

theorem own : ownKnob Tryd.prog.godebug = none := by kernel_rfl
theorem gKeys : Tryd.prog.globalNamed "tannoy/nat.keys" = some 0 := by kernel_rfl
theorem tKeys : (Tryd.prog.globals[0]?).map (·.type) = some 155 := by kernel_rfl
theorem cells154 : Tryd.prog.cellsOf 154 = 1 := by kernel_rfl
theorem cells155 : Tryd.prog.cellsOf 155 = 4 := by kernel_rfl
theorem und155 : Tryd.prog.underlying 155 = some (.array 4 154) := by kernel_rfl
theorem und154 : Tryd.prog.underlying 154 = some (.func #[27] #[27] false) := by kernel_rfl

/-- The condition. -/
abbrev laid1 : List (String × DataW Unit) := [("tannoy/nat.keys", Rows.laid_tannoy_nat_keys)]

/-- The door's own heap meets the condition. -/
theorem door_met (os : Os) (args : Array Value) : laidMetH Tryd.prog laid1 ((World.doorLaid Tryd.prog 14 os).forCall (fun _ _ => 0) ⟨#[], args, []⟩).memory :=
  laidMetH_of_parts3 (fuel := 8) (laidMet_of_run' 8 (by kernel_rfl) (by kernel_rfl)) (by kernel_rfl) (by kernel_rfl)

/-- What the condition gives: the table's four cells. -/
theorem of_laid {W : World} (h : laidMetH Tryd.prog laid1 W) : W.cell? ⟨0, 0, none⟩ = some .nilFunc ∧ W.cell? ⟨0, 1, none⟩ = some (.func (.func 146) #[] #[]) ∧
    W.cell? ⟨0, 2, none⟩ = some (.func (.func 147) #[] #[]) ∧ W.cell? ⟨0, 3, none⟩ = some (.func (.func 148) #[] #[]) := by
  obtain ⟨g, t, cs, fuel, p, hg, ht, hv, hd⟩ := h.funcs (List.mem_singleton.2 rfl)
  obtain rfl := Option.some.inj (gKeys.symm.trans hg)
  obtain rfl := Option.some.inj (tKeys.symm.trans ht)
  have hd' : DataW.trod (funcToken Tryd.prog) Tryd.prog W 0 (fun _ => true) true fuel 155 cs.toList = some (.agg [.nil, .held [116, 97, 110, 110, 111, 121, 47, 110, 97, 116, 46, 107, 101, 121, 115, 36, 49], .held [116, 97, 110, 110, 111, 121, 47, 110, 97, 116, 46, 107, 101, 121, 115, 36, 50], .held [116, 97, 110, 110, 111, 121, 47, 110, 97, 116, 46, 107, 101, 121, 115, 36, 51]], p) := hd
  obtain ⟨xs, m, rfl, hx, hl, hn, hel⟩ := DataW.trod_array und155 hd'
  rw [cells155] at hl
  obtain ⟨v0, v1, v2, v3, hcs⟩ : ∃ v0 v1 v2 v3, cs.toList = [v0, v1, v2, v3] := by
    match hc : cs.toList, hl with
    | [a, b, c, d], _ => exact ⟨a, b, c, d, rfl⟩
  obtain ⟨x0, x1, x2, x3, hxs⟩ : ∃ x0 x1 x2 x3, xs = [x0, x1, x2, x3] := by
    match xs, hn with
    | [a, b, c, d], _ => exact ⟨a, b, c, d, rfl⟩
  subst hxs
  simp only [Prod.mk.injEq, DataW.agg.injEq, List.map_cons, List.map_nil, List.cons.injEq, and_true] at hx
  obtain ⟨⟨h0, h1, h2, h3⟩, -⟩ := hx
  have e0 := hel 0 (by omega)
  have e1 := hel 1 (by omega)
  have e2 := hel 2 (by omega)
  have e3 := hel 3 (by omega)
  rw [cells154, hcs] at e0 e1 e2 e3
  simp at e0 e1 e2 e3
  have k0 : v0 = .nilFunc := by
    cases m with
    | zero => simp [DataW.trod] at e0
    | succ m =>
      cases v0 <;> simp [DataW.trod] at e0 <;> first | rfl | (subst e0; simp at h0)
  have k1 : v1 = .func (.func 146) #[] #[] := func_of_trod (f0 := 146) (q := x1.2) und154 (by kernel_rfl) (e1.trans (by rw [h1]))
  have k2 : v2 = .func (.func 147) #[] #[] := func_of_trod (f0 := 147) (q := x2.2) und154 (by kernel_rfl) (e2.trans (by rw [h2]))
  have k3 : v3 = .func (.func 148) #[] #[] := func_of_trod (f0 := 148) (q := x3.2) und154 (by kernel_rfl) (e3.trans (by rw [h3]))
  have ec : cs = #[v0, v1, v2, v3] := Array.toList_inj.1 (by rw [hcs])
  subst ec
  have c := World.var?_cell gKeys hv
  exact ⟨by rw [c 0, k0]; rfl, by rw [c 1, k1]; rfl, by rw [c 2, k2]; rfl, by rw [c 3, k3]; rfl⟩

/-- All that lies in a world is as data. -/
def gh0 (w : World) : Gh := { loc := fun _ => none, own := fun _ => none, lim := fun B => match w.heap[B]? with | some (.cells cs _ _) => cs.size | _ => 0 }

theorem gh0_lim {w : World} {B o : Nat} {v : Value} (h : cellAt w B o = some v) : o < (gh0 w).lim B := by
  unfold cellAt World.cell? at h
  simp only [gh0]
  cases hb : w.heap[B]? with
  | none => simp [hb] at h
  | some x =>
    cases x with
    | cells cs t fz =>
      simp only [hb] at h
      simp only
      exact (Array.getElem?_eq_some_iff.1 (by simpa using h)).1
    | _ => simp [hb] at h

theorem globOk {w : World} (h : laidMetH Tryd.prog laid1 w) : GlobOk GG (gh0 w) w := fun g cells hg => by
  unfold GG at hg
  split at hg
  · rename_i e
    subst e
    simp only [Option.some.injEq] at hg
    subst hg
    obtain ⟨c0, c1, c2, c3⟩ := of_laid h
    refine .snap _ 0 0 (fun i => match i with | 0 => .nilFunc | 1 => .func (.func 146) #[] #[] | 2 => .func (.func 147) #[] #[] | _ => .func (.func 148) #[] #[]) (fun i c hc => ?_) (fun i c hc => ?_)
    · have key : ∀ (o : Nat) (v : Value), w.cell? ⟨0, o, none⟩ = some v → o < (gh0 w).lim 0 ∧ cellAt w 0 o = some v := fun o v hv => ⟨gh0_lim (v := v) hv, hv⟩
      match i, hc with
      | 0, _ => exact key _ _ c0
      | 1, _ => exact key _ _ c1
      | 2, _ => exact key _ _ c2
      | 3, _ => exact key _ _ c3
      | n + 4, hc => simp at hc
    · match i, hc with
      | 0, hc => simp at hc; subst hc; exact .nilf
      | 1, hc => simp at hc; subst hc; exact .fn 146 [] [] [] [] rfl rfl (by simp) (by simp)
      | 2, hc => simp at hc; subst hc; exact .fn 147 [] [] [] [] rfl rfl (by simp) (by simp)
      | 3, hc => simp at hc; subst hc; exact .fn 148 [] [] [] [] rfl rfl (by simp) (by simp)
      | n + 4, hc => simp at hc
  · simp at hg

theorem keptBut_of_grow {w w' : World} {γ' : Gh} (h : Grow (gh0 w) w γ' w') (may : MemPlace → Prop) : w.keptBut w' may := by
  refine ⟨h.os, h.output, fun i hi => ?_⟩
  have := (h.free i hi rfl).1
  rw [this]
  cases w.heap[i]? with
  | none => trivial
  | some x =>
    cases x with
    | cells c t fr => exact ⟨rfl, rfl, rfl, fun _ _ => rfl⟩
    | map es clock => exact .inr ⟨rfl, rfl⟩
    | _ => rfl

end Go.Proofs.YtdiagiflihpidaaDoor

namespace Go.Proofs.YtdiagiflihpidaaDoor
open Go Go.EV
set_option maxRecDepth 100000

/-- How cells read as data. -/
def CellsD (W : World) (l : List V) (cs : List Value) : Prop := cs.length = l.length ∧ ∀ (i : Nat) (c : V) (v : Value), l[i]? = some c → cs[i]? = some v → RepD (gh0 W).lim W c v

theorem CellsD.one {W : World} {c : V} {v : Value} (h : RepD (gh0 W).lim W c v) : CellsD W [c] [v] := ⟨rfl, fun i c' v' hc hv => by
  cases i with
  | zero => simp at hc hv; subst hc; subst hv; exact h
  | succ i => simp at hc⟩

theorem CellsD.append {W : World} {l m : List V} {cs ds : List Value} (h : CellsD W l cs) (k : CellsD W m ds) : CellsD W (l ++ m) (cs ++ ds) :=
  ⟨by simp [h.1, k.1], fun i c v hc hv => by
    by_cases hi : i < l.length
    · rw [List.getElem?_append_left hi] at hc
      rw [List.getElem?_append_left (by rw [h.1]; exact hi)] at hv
      exact h.2 i c v hc hv
    · rw [List.getElem?_append_right (by omega)] at hc
      rw [List.getElem?_append_right (by rw [h.1]; omega), h.1] at hv
      exact k.2 _ c v hc hv⟩

/-- What reads at a type reads as typed data. -/
def Rd (t : TypeId) {α : Type} (c : α → List V) (I : α → Prop) : Prop :=
  ∀ (H : Type) (enc : TypeId × Value → H) (W : World) (fuel : Nat) (cs : List Value) (x : DataW H × List MemPlace), DataW.trod enc Tryd.prog W 0 (fun _ => true) true fuel t cs = some x → ∃ a : α, I a ∧ CellsD W (c a) cs

theorem rdInt {t : TypeId} {k : IntKind} (ht : Tryd.prog.underlying t = some (.int k)) : Rd t (fun n : Int => [.int k n]) (fun n => (Lit.int k n).wf = true) := fun H enc W fuel cs x h => by
  obtain ⟨n, rfl, _, hw⟩ := DataW.trod_int ht h
  exact ⟨n, hw, .one (.int k n)⟩

theorem rdBool {t : TypeId} (ht : Tryd.prog.underlying t = some .bool) : Rd t (fun b : Bool => [.bool b]) (fun _ => True) := fun H enc W fuel cs x h => by
  cases fuel with
  | zero => simp [DataW.trod] at h
  | succ n =>
    unfold DataW.trod at h
    rw [ht] at h
    split at h <;> first | exact ⟨_, trivial, .one (.bool _)⟩ | simp_all

theorem rdStr {t : TypeId} (ht : Tryd.prog.underlying t = some .string) : Rd t (fun s : ByteArray => [.str s]) (fun _ => True) := fun H enc W fuel cs x h => by
  cases fuel with
  | zero => simp [DataW.trod] at h
  | succ n =>
    unfold DataW.trod at h
    rw [ht] at h
    split at h <;> simp_all
    exact ⟨_, .one (.str _)⟩

theorem fld {H : Type} {enc : TypeId × Value → H} {W : World} {n : Nat} {fs : Array Field} {cs : List Value} {xs : List (DataW H × List MemPlace)} {t o z : Nat} {α : Type} {c : α → List V} {I : α → Prop}
    (hel : ∀ (i : Nat) (f : Field), fs[i]? = some f → DataW.trod enc Tryd.prog W 0 (fun _ => true) true n f.type ((cs.drop f.offset).take (Tryd.prog.cellsOf f.type)) = xs[i]?) (hn : xs.length = fs.size) (i : Nat)
    (hf : (fs[i]?).map (fun f => (f.type, f.offset)) = some (t, o)) (hz : Tryd.prog.cellsOf t = z) (r : Rd t c I) : ∃ a : α, I a ∧ CellsD W (c a) ((cs.drop o).take z) := by
  obtain ⟨f, h1, h2⟩ := Option.map_eq_some_iff.1 hf
  simp only [Prod.mk.injEq] at h2
  obtain ⟨rfl, rfl⟩ := h2
  have hi : i < xs.length := by rw [hn]; exact (Array.getElem?_eq_some_iff.1 h1).1
  have := hel i f h1
  rw [List.getElem?_eq_getElem hi, hz] at this
  exact r H enc W n _ _ this

theorem fldA {H : Type} {enc : TypeId × Value → H} {W : World} {n m : Nat} {cs : List Value} {xs : List (DataW H × List MemPlace)} {t z : Nat} {α : Type} {c : α → List V} {I : α → Prop}
    (hel : ∀ (i : Nat), i < m → DataW.trod enc Tryd.prog W 0 (fun _ => true) true n t ((cs.drop (i * Tryd.prog.cellsOf t)).take (Tryd.prog.cellsOf t)) = xs[i]?) (hn : xs.length = m) (i : Nat) (hi : i < m)
    (hz : Tryd.prog.cellsOf t = z) (r : Rd t c I) : ∃ a : α, I a ∧ CellsD W (c a) ((cs.drop (i * z)).take z) := by
  have := hel i hi
  rw [List.getElem?_eq_getElem (by omega), hz] at this
  exact r H enc W n _ _ this

theorem cells_at {W : World} {a : Addr} {z : Nat} {ci : List Value} (h : W.cells? 0 a z = some ci) : ci.length = z ∧ ∀ r, r < z → W.cell? (a.add r) = ci[r]? := by
  unfold World.cells? at h
  rw [if_pos (Nat.zero_le _)] at h
  exact ⟨by simpa using mapM_some_length h, fun r hr => mapM_some_get h r r (by simp [hr])⟩

theorem spot_of {W : World} {a : Addr} {z q : Nat} {ci : List Value} (hz : 0 < z) (h : W.cells? 0 (a.add (q * z)) z = some ci) (hq : q = 0) : a.spot = none := by
  obtain ⟨h1, h2⟩ := cells_at h
  have h3 := h2 0 hz
  have e : (a.add (q * z)).add 0 = a := by subst hq; simp [Addr.add]
  rw [e, List.getElem?_eq_getElem (by omega)] at h3
  exact World.cell?_spot h3

theorem rdSlice {t e z : Nat} {α : Type} {ty : Ty α} {I : α → Prop} (ht : Tryd.prog.underlying t = some (.slice e)) (hz : Tryd.prog.cellsOf e = z) (hpos : 0 < z) (hlen : ∀ a, (ty.c a).length = z) (r : Rd e ty.c I) :
    Rd t (fun l : List α => [.sl false z (l.map ty.c)]) (fun l => ∀ a, a ∈ l → I a) := fun H enc W fuel cs x h => by
  rcases DataW.trod_slice ht h with ⟨rfl, -⟩ | ⟨a, len, cap, elems, rest, n, rfl, rfl, -, -, hlc, -, hel, hE, hR, -⟩
  · exact ⟨[], by simp, .one (.slNil false z)⟩
  rw [hz] at hE hR
  have build : ∀ m, m ≤ len → ∃ l : List α, l.length = m ∧ (∀ a, a ∈ l → I a) ∧ ∀ i x, l[i]? = some x → ∃ ci, W.cells? 0 (a.add (i * z)) z = some ci ∧ CellsD W (ty.c x) ci := by
    intro m
    induction m with
    | zero => intro _; exact ⟨[], rfl, by simp, by simp⟩
    | succ m ih =>
      intro hm
      obtain ⟨l, l1, l2, l3⟩ := ih (by omega)
      have := hE m (by omega)
      rw [List.getElem?_eq_getElem (by omega)] at this
      obtain ⟨ci, hci, htr⟩ := Option.bind_eq_some_iff.1 this
      obtain ⟨y, hy, hcd⟩ := r H enc W n ci _ htr
      refine ⟨l ++ [y], by simp [l1], fun b hb => ?_, fun i x hx => ?_⟩
      · rcases List.mem_append.1 hb with hb | hb
        · exact l2 b hb
        · rw [List.mem_singleton.1 hb]; exact hy
      · by_cases hi : i < l.length
        · rw [List.getElem?_append_left hi] at hx; exact l3 i x hx
        · rw [List.getElem?_append_right (by omega)] at hx
          have hi2 : i - l.length = 0 := by
            have := (List.getElem?_eq_some_iff.1 hx).1
            simp at this; omega
          rw [hi2] at hx; simp at hx; subst hx
          have : i = m := by omega
          subst this
          exact ⟨ci, hci, hcd⟩
  obtain ⟨l, hl, hI, hc⟩ := build len (Nat.le_refl _)
  refine ⟨l, hI, .one ?_⟩
  by_cases hcap : cap = 0
  · have : l = [] := List.length_eq_zero_iff.1 (by omega)
    subst this
    have h0 : len = 0 := by simpa using hl.symm
    subst h0; subst hcap
    exact .slNil false z (some a)
  have hspot : a.spot = none := by
    by_cases h0 : len = 0
    · obtain ⟨r1, r2⟩ := hR rfl
      have := r2 0 (by omega)
      rw [List.getElem?_eq_getElem (by omega)] at this
      obtain ⟨ci, hci, _⟩ := Option.bind_eq_some_iff.1 this
      exact spot_of hpos (q := len + 0) hci (by omega)
    · have := hE 0 (by omega)
      rw [List.getElem?_eq_getElem (by omega)] at this
      obtain ⟨ci, hci, _⟩ := Option.bind_eq_some_iff.1 this
      exact spot_of hpos hci rfl
  obtain ⟨B, o, sp⟩ := a
  simp only at hspot
  subst hspot
  have hsz : ∀ q, q ∈ l.map ty.c → q.length = z := fun q hq => by
    obtain ⟨y, _, rfl⟩ := List.mem_map.1 hq; exact hlen y
  have key : ∀ (i : Nat) (c : V), (l.map ty.c).flatten[i]? = some c → ∃ v, cellAt W B (o + i) = some v ∧ RepD (gh0 W).lim W c v := fun i c hci => by
    have e1 : i = (i / z) * z + i % z := by rw [Nat.mul_comm]; exact (Nat.div_add_mod i z).symm
    have hm := Nat.mod_lt i hpos
    rw [e1, flatten_get _ hsz _ _ hm, List.getElem?_map] at hci
    cases hx : l[i / z]? with
    | none => rw [hx] at hci; simp at hci
    | some y =>
      rw [hx] at hci
      simp only [Option.map_some, Option.bind_some] at hci
      obtain ⟨ci, k1, k2⟩ := hc _ _ hx
      obtain ⟨k3, k4⟩ := cells_at k1
      have k5 := k4 (i % z) hm
      have hv : ci[i % z]? = some (ci[i % z]'(by omega)) := List.getElem?_eq_getElem _
      refine ⟨_, ?_, k2.2 _ _ _ hci hv⟩
      rw [hv] at k5
      rw [Addr.add_eq, Addr.add_eq] at k5
      unfold cellAt
      rw [show o + i = o + (i / z) * z + i % z by omega]
      exact k5
  have fin := RepD.sl (lim := (gh0 W).lim) (w := W) false z (l.map ty.c) B o cap (fun i => (cellAt W B (o + i)).getD default) (by simp; omega) hsz
    (fun i c hci => by obtain ⟨v, v1, v2⟩ := key i c hci; rw [v1]; exact ⟨gh0_lim v1, rfl⟩) (fun i c hci => by obtain ⟨v, v1, v2⟩ := key i c hci; rw [v1]; exact v2)
  rw [List.length_map, hl] at fin
  exact fin

theorem len2 {α : Type} {l : List α} (h : l.length = 2) : ∃ a b, l = [a, b] := by match l, h with | [a, b], _ => exact ⟨a, b, rfl⟩
theorem len4 {α : Type} {l : List α} (h : l.length = 4) : ∃ a b c d, l = [a, b, c, d] := by match l, h with | [a, b, c, d], _ => exact ⟨a, b, c, d, rfl⟩
theorem len6 {α : Type} {l : List α} (h : l.length = 6) : ∃ a b c d e f, l = [a, b, c, d, e, f] := by match l, h with | [a, b, c, d, e, f], _ => exact ⟨a, b, c, d, e, f, rfl⟩
theorem len7 {α : Type} {l : List α} (h : l.length = 7) : ∃ a b c d e f g, l = [a, b, c, d, e, f, g] := by match l, h with | [a, b, c, d, e, f, g], _ => exact ⟨a, b, c, d, e, f, g, rfl⟩
theorem len8 {α : Type} {l : List α} (h : l.length = 8) : ∃ a b c d e f g i, l = [a, b, c, d, e, f, g, i] := by match l, h with | [a, b, c, d, e, f, g, i], _ => exact ⟨a, b, c, d, e, f, g, i, rfl⟩
theorem len9 {α : Type} {l : List α} (h : l.length = 9) : ∃ a b c d e f g i j, l = [a, b, c, d, e, f, g, i, j] := by match l, h with | [a, b, c, d, e, f, g, i, j], _ => exact ⟨a, b, c, d, e, f, g, i, j, rfl⟩
theorem len12 {α : Type} {l : List α} (h : l.length = 12) : ∃ a b c d e f g i j k m n, l = [a, b, c, d, e, f, g, i, j, k, m, n] := by match l, h with | [a, b, c, d, e, f, g, i, j, k, m, n], _ => exact ⟨a, b, c, d, e, f, g, i, j, k, m, n, rfl⟩

-- the types

theorem u3 : Tryd.prog.underlying 3 = some (.int .i64) := by kernel_rfl
theorem u4 : Tryd.prog.underlying 4 = some .bool := by kernel_rfl
theorem u5 : Tryd.prog.underlying 5 = some (.int .u8) := by kernel_rfl
theorem u9 : Tryd.prog.underlying 9 = some .string := by kernel_rfl
theorem u22 : Tryd.prog.underlying 22 = some (.int .u16) := by kernel_rfl
theorem u23 : Tryd.prog.underlying 23 = some (.slice 126) := by kernel_rfl
theorem u31 : Tryd.prog.underlying 31 = some (.slice 61) := by kernel_rfl
theorem u59 : Tryd.prog.underlying 59 = some (.slice 27) := by kernel_rfl
theorem u30 : Tryd.prog.underlying 30 = some (.array 2 29) := by kernel_rfl

noncomputable def fsOf (t : TypeId) : Array Field := match Tryd.prog.underlying t with | some (.struct f) => f | _ => #[]
theorem u25 : Tryd.prog.underlying 25 = some (.struct (fsOf 25)) := by kernel_rfl
theorem u27 : Tryd.prog.underlying 27 = some (.struct (fsOf 27)) := by kernel_rfl
theorem u29 : Tryd.prog.underlying 29 = some (.struct (fsOf 29)) := by kernel_rfl
theorem u33 : Tryd.prog.underlying 33 = some (.struct (fsOf 33)) := by kernel_rfl
theorem u35 : Tryd.prog.underlying 35 = some (.struct (fsOf 35)) := by kernel_rfl
theorem u61 : Tryd.prog.underlying 61 = some (.struct (fsOf 61)) := by kernel_rfl
theorem u126 : Tryd.prog.underlying 126 = some (.struct (fsOf 126)) := by kernel_rfl

theorem z3 : Tryd.prog.cellsOf 3 = 1 := by kernel_rfl
theorem z4 : Tryd.prog.cellsOf 4 = 1 := by kernel_rfl
theorem z5 : Tryd.prog.cellsOf 5 = 1 := by kernel_rfl
theorem z9 : Tryd.prog.cellsOf 9 = 1 := by kernel_rfl
theorem z22 : Tryd.prog.cellsOf 22 = 1 := by kernel_rfl
theorem z23 : Tryd.prog.cellsOf 23 = 1 := by kernel_rfl
theorem z31 : Tryd.prog.cellsOf 31 = 1 := by kernel_rfl
theorem z59 : Tryd.prog.cellsOf 59 = 1 := by kernel_rfl
theorem z25 : Tryd.prog.cellsOf 25 = 6 := by kernel_rfl
theorem z27 : Tryd.prog.cellsOf 27 = 2 := by kernel_rfl
theorem z29 : Tryd.prog.cellsOf 29 = 6 := by kernel_rfl
theorem z30 : Tryd.prog.cellsOf 30 = 12 := by kernel_rfl
theorem z33 : Tryd.prog.cellsOf 33 = 9 := by kernel_rfl
theorem z35 : Tryd.prog.cellsOf 35 = 8 := by kernel_rfl
theorem z61 : Tryd.prog.cellsOf 61 = 7 := by kernel_rfl
theorem z126 : Tryd.prog.cellsOf 126 = 4 := by kernel_rfl

def OkA (a : SAddr) : Prop := (Lit.int .i64 a.fPort).wf = true
theorem rdAddr : Rd 27 tySAddr.c OkA := fun H enc W fuel cs x h => by
  obtain ⟨xs, m, rfl, -, hl, hn, hel⟩ := DataW.trod_struct u27 h
  rw [z27] at hl
  obtain ⟨v0, v1, rfl⟩ := len2 hl
  obtain ⟨a, -, k0⟩ := fld hel hn 0 (t := 9) (o := 0) (by kernel_rfl) z9 (rdStr u9)
  obtain ⟨b, i1, k1⟩ := fld hel hn 1 (t := 3) (o := 1) (by kernel_rfl) z3 (rdInt u3)
  exact ⟨⟨a, b⟩, i1, k0.append k1⟩

def OkL (l : List SAddr) : Prop := ∀ a, a ∈ l → OkA a
theorem rdOpen : Rd 59 (fun l : List SAddr => [.sl false 2 (l.map tySAddr.c)]) OkL := rdSlice u59 z27 (by omega) (fun _ => rfl) rdAddr

def OkB (b : SBinding) : Prop := OkA b.fInside ∧ OkA b.fPeer ∧ (Lit.int .i64 b.fPort).wf = true ∧ (Lit.int .i64 b.fUntil).wf = true ∧ OkL b.fOpen
theorem rdBinding : Rd 61 tySBinding.c OkB := fun H enc W fuel cs x h => by
  obtain ⟨xs, m, rfl, -, hl, hn, hel⟩ := DataW.trod_struct u61 h
  rw [z61] at hl
  obtain ⟨v0, v1, v2, v3, v4, v5, v6, rfl⟩ := len7 hl
  obtain ⟨a, i0, k0⟩ := fld hel hn 0 (t := 27) (o := 0) (by kernel_rfl) z27 rdAddr
  obtain ⟨b, i1, k1⟩ := fld hel hn 1 (t := 27) (o := 2) (by kernel_rfl) z27 rdAddr
  obtain ⟨c, i2, k2⟩ := fld hel hn 2 (t := 3) (o := 4) (by kernel_rfl) z3 (rdInt u3)
  obtain ⟨d, i3, k3⟩ := fld hel hn 3 (t := 3) (o := 5) (by kernel_rfl) z3 (rdInt u3)
  obtain ⟨e, i4, k4⟩ := fld hel hn 4 (t := 59) (o := 6) (by kernel_rfl) z59 rdOpen
  exact ⟨⟨a, b, c, d, e⟩, ⟨i0, i1, i2, i3, i4⟩, k0.append (k1.append (k2.append (k3.append k4)))⟩

def OkT (l : List SBinding) : Prop := ∀ b, b ∈ l → OkB b
theorem rdTable : Rd 31 (fun l : List SBinding => [.sl false 7 (l.map tySBinding.c)]) OkT := rdSlice u31 z61 (by omega) (fun _ => rfl) rdBinding

def cNat (n : SNat) : List V := [.int .i64 n.fMapping, .int .i64 n.fFilter, .int .i64 n.fTimeout, .bool n.fHairpin, .str n.fHost, .int .i64 n.fLow, .int .i64 n.fHigh, .int .i64 n.fNow, .sl false 7 (n.fTable.map tySBinding.c)]
def w64 (n : Int) : Prop := (Lit.int .i64 n).wf = true
def OkN (n : SNat) : Prop := w64 n.fMapping ∧ w64 n.fFilter ∧ w64 n.fTimeout ∧ w64 n.fLow ∧ w64 n.fHigh ∧ w64 n.fNow ∧ OkT n.fTable
theorem rdNat : Rd 33 cNat OkN := fun H enc W fuel cs x h => by
  obtain ⟨xs, m, rfl, -, hl, hn, hel⟩ := DataW.trod_struct u33 h
  rw [z33] at hl
  obtain ⟨v0, v1, v2, v3, v4, v5, v6, v7, v8, rfl⟩ := len9 hl
  obtain ⟨a, i0, k0⟩ := fld hel hn 0 (t := 3) (o := 0) (by kernel_rfl) z3 (rdInt u3)
  obtain ⟨b, i1, k1⟩ := fld hel hn 1 (t := 3) (o := 1) (by kernel_rfl) z3 (rdInt u3)
  obtain ⟨c, i2, k2⟩ := fld hel hn 2 (t := 3) (o := 2) (by kernel_rfl) z3 (rdInt u3)
  obtain ⟨d, i3, k3⟩ := fld hel hn 3 (t := 4) (o := 3) (by kernel_rfl) z4 (rdBool u4)
  obtain ⟨e, i4, k4⟩ := fld hel hn 4 (t := 9) (o := 4) (by kernel_rfl) z9 (rdStr u9)
  obtain ⟨f, i5, k5⟩ := fld hel hn 5 (t := 3) (o := 5) (by kernel_rfl) z3 (rdInt u3)
  obtain ⟨g, i6, k6⟩ := fld hel hn 6 (t := 3) (o := 6) (by kernel_rfl) z3 (rdInt u3)
  obtain ⟨i, i7, k7⟩ := fld hel hn 7 (t := 3) (o := 7) (by kernel_rfl) z3 (rdInt u3)
  obtain ⟨j, i8, k8⟩ := fld hel hn 8 (t := 31) (o := 8) (by kernel_rfl) z31 rdTable
  exact ⟨⟨a, b, c, d, e, f, g, i, j⟩, ⟨i0, i1, i2, i5, i6, i7, i8⟩, k0.append (k1.append (k2.append (k3.append (k4.append (k5.append (k6.append (k7.append k8)))))))⟩

def w8 (n : Int) : Prop := (Lit.int .u8 n).wf = true
def w16 (n : Int) : Prop := (Lit.int .u16 n).wf = true
theorem w8_iff {n : Int} (h : w8 n) : 0 ≤ n ∧ n ≤ 255 := by
  simp [w8, Lit.wf, IntKind.min, IntKind.max, IntKind.signed, IntKind.bits] at h; omega
theorem w16_iff {n : Int} (h : w16 n) : 0 ≤ n ∧ n ≤ 65535 := by
  simp [w16, Lit.wf, IntKind.min, IntKind.max, IntKind.signed, IntKind.bits] at h; omega

def OkM (a : SMove) : Prop := w8 a.fWhat ∧ w8 a.fFrom ∧ w8 a.fTo ∧ w16 a.fAfter
theorem rdMove : Rd 126 tySMove.c OkM := fun H enc W fuel cs x h => by
  obtain ⟨xs, m, rfl, -, hl, hn, hel⟩ := DataW.trod_struct u126 h
  rw [z126] at hl
  obtain ⟨v0, v1, v2, v3, rfl⟩ := len4 hl
  obtain ⟨a, i0, k0⟩ := fld hel hn 0 (t := 5) (o := 0) (by kernel_rfl) z5 (rdInt u5)
  obtain ⟨b, i1, k1⟩ := fld hel hn 1 (t := 5) (o := 1) (by kernel_rfl) z5 (rdInt u5)
  obtain ⟨c, i2, k2⟩ := fld hel hn 2 (t := 5) (o := 2) (by kernel_rfl) z5 (rdInt u5)
  obtain ⟨d, i3, k3⟩ := fld hel hn 3 (t := 22) (o := 3) (by kernel_rfl) z22 (rdInt u22)
  exact ⟨⟨a, b, c, d⟩, ⟨i0, i1, i2, i3⟩, k0.append (k1.append (k2.append k3))⟩

theorem rdMoves : Rd 23 (fun l : List SMove => [.sl false 4 (l.map tySMove.c)]) (fun l => ∀ a, a ∈ l → OkM a) := rdSlice u23 z126 (by omega) (fun _ => rfl) rdMove

def cDraft (d : SDraft) : List V := [.int .u8 d.fMapping, .int .u8 d.fFilter, .int .u8 d.fPorts, .int .u16 d.fTimeout, .bool d.fHairpin, .sl false 4 (d.fMoves.map tySMove.c)]
def OkD (d : SDraft) : Prop := w8 d.fMapping ∧ w8 d.fFilter ∧ w8 d.fPorts ∧ w16 d.fTimeout ∧ ∀ a, a ∈ d.fMoves → OkM a
theorem rdDraft : Rd 25 cDraft OkD := fun H enc W fuel cs x h => by
  obtain ⟨xs, m, rfl, -, hl, hn, hel⟩ := DataW.trod_struct u25 h
  rw [z25] at hl
  obtain ⟨v0, v1, v2, v3, v4, v5, rfl⟩ := len6 hl
  obtain ⟨a, i0, k0⟩ := fld hel hn 0 (t := 5) (o := 0) (by kernel_rfl) z5 (rdInt u5)
  obtain ⟨b, i1, k1⟩ := fld hel hn 1 (t := 5) (o := 1) (by kernel_rfl) z5 (rdInt u5)
  obtain ⟨c, i2, k2⟩ := fld hel hn 2 (t := 5) (o := 2) (by kernel_rfl) z5 (rdInt u5)
  obtain ⟨d, i3, k3⟩ := fld hel hn 3 (t := 22) (o := 3) (by kernel_rfl) z22 (rdInt u22)
  obtain ⟨e, i4, k4⟩ := fld hel hn 4 (t := 4) (o := 4) (by kernel_rfl) z4 (rdBool u4)
  obtain ⟨f, i5, k5⟩ := fld hel hn 5 (t := 23) (o := 5) (by kernel_rfl) z23 rdMoves
  exact ⟨⟨a, b, c, d, e, f⟩, ⟨i0, i1, i2, i3, i5⟩, k0.append (k1.append (k2.append (k3.append (k4.append k5))))⟩

def cBend (z : SBend) : List V := [.int .u8 z.fWhat, .int .u8 z.fAt, .int .i64 z.fN, .str z.fA.fHost, .int .i64 z.fA.fPort, .str z.fS]
def OkZ (z : SBend) : Prop := w8 z.fWhat ∧ w8 z.fAt ∧ w64 z.fN ∧ OkA z.fA
theorem rdBend : Rd 29 cBend OkZ := fun H enc W fuel cs x h => by
  obtain ⟨xs, m, rfl, -, hl, hn, hel⟩ := DataW.trod_struct u29 h
  rw [z29] at hl
  obtain ⟨v0, v1, v2, v3, v4, v5, rfl⟩ := len6 hl
  obtain ⟨a, i0, k0⟩ := fld hel hn 0 (t := 5) (o := 0) (by kernel_rfl) z5 (rdInt u5)
  obtain ⟨b, i1, k1⟩ := fld hel hn 1 (t := 5) (o := 1) (by kernel_rfl) z5 (rdInt u5)
  obtain ⟨c, i2, k2⟩ := fld hel hn 2 (t := 3) (o := 2) (by kernel_rfl) z3 (rdInt u3)
  obtain ⟨d, i3, k3⟩ := fld hel hn 3 (t := 27) (o := 3) (by kernel_rfl) z27 rdAddr
  obtain ⟨e, i4, k4⟩ := fld hel hn 4 (t := 9) (o := 5) (by kernel_rfl) z9 (rdStr u9)
  exact ⟨⟨a, b, c, d, e⟩, ⟨i0, i1, i2, i3⟩, k0.append (k1.append (k2.append (k3.append k4)))⟩

def cBends (z : S2Tannoyref13Bend) : List V := [.int .u8 z.a0.fWhat, .int .u8 z.a0.fAt, .int .i64 z.a0.fN, .str z.a0.fA.fHost, .int .i64 z.a0.fA.fPort, .str z.a0.fS, .int .u8 z.a1.fWhat, .int .u8 z.a1.fAt, .int .i64 z.a1.fN, .str z.a1.fA.fHost, .int .i64 z.a1.fA.fPort, .str z.a1.fS]
theorem rdBends : Rd 30 cBends (fun z => OkZ z.a0 ∧ OkZ z.a1) := fun H enc W fuel cs x h => by
  obtain ⟨xs, m, rfl, -, hl, hn, hel⟩ := DataW.trod_array u30 h
  rw [z30] at hl
  obtain ⟨v0, v1, v2, v3, v4, v5, v6, v7, v8, v9, v10, v11, rfl⟩ := len12 hl
  obtain ⟨a, i0, k0⟩ := fldA hel hn 0 (by omega) z29 rdBend
  obtain ⟨b, i1, k1⟩ := fldA hel hn 1 (by omega) z29 rdBend
  exact ⟨⟨a, b⟩, ⟨i0, i1⟩, k0.append k1⟩

def cMv (a : SMove1) : List V := [.int .u8 a.fFrom, .int .u8 a.fTo, .int .u16 a.fAfter, .int .i64 a.fNow, .str a.fRawFrom.fHost, .int .i64 a.fRawFrom.fPort, .str a.fRawTo.fHost, .int .i64 a.fRawTo.fPort]
def OkMv (a : SMove1) : Prop := w8 a.fFrom ∧ w8 a.fTo ∧ w16 a.fAfter ∧ w64 a.fNow ∧ OkA a.fRawFrom ∧ OkA a.fRawTo
theorem rdMv : Rd 35 cMv OkMv := fun H enc W fuel cs x h => by
  obtain ⟨xs, m, rfl, -, hl, hn, hel⟩ := DataW.trod_struct u35 h
  rw [z35] at hl
  obtain ⟨v0, v1, v2, v3, v4, v5, v6, v7, rfl⟩ := len8 hl
  obtain ⟨a, i0, k0⟩ := fld hel hn 0 (t := 5) (o := 0) (by kernel_rfl) z5 (rdInt u5)
  obtain ⟨b, i1, k1⟩ := fld hel hn 1 (t := 5) (o := 1) (by kernel_rfl) z5 (rdInt u5)
  obtain ⟨c, i2, k2⟩ := fld hel hn 2 (t := 22) (o := 2) (by kernel_rfl) z22 (rdInt u22)
  obtain ⟨d, i3, k3⟩ := fld hel hn 3 (t := 3) (o := 3) (by kernel_rfl) z3 (rdInt u3)
  obtain ⟨e, i4, k4⟩ := fld hel hn 4 (t := 27) (o := 4) (by kernel_rfl) z27 rdAddr
  obtain ⟨f, i5, k5⟩ := fld hel hn 5 (t := 27) (o := 6) (by kernel_rfl) z27 rdAddr
  exact ⟨⟨a, b, c, d, e, f⟩, ⟨i0, i1, i2, i3, i4, i5⟩, k0.append (k1.append (k2.append (k3.append (k4.append k5))))⟩

-- a whole argument

/-- A struct or an array that comes in. -/
theorem open_agg {H : Type} {enc : TypeId × Value → H} {W : World} {t : TypeId} {α : Type} {c : α → List V} {I : α → Prop} (r : Rd t c I) {v : Value} {d : DataW H} {p : List MemPlace} (hv : ∃ cs, v = .agg cs)
    (h : DataW.Trod enc Tryd.prog W 0 (fun _ => true) true t v d p) : ∃ a : α, I a ∧ Rep (gh0 W) W (ofL []) uTop (.agg (c a)) v := by
  obtain ⟨cs, rfl⟩ := hv
  obtain ⟨fuel, hf⟩ := h
  obtain ⟨a, hi, hc⟩ := r H enc W fuel _ _ hf
  refine ⟨a, hi, ?_⟩
  have := Rep.agg (γ := gh0 W) (w := W) (bs := ofL []) (u := uTop) (c a) cs.toList hc.1 (fun i x y hx hy => .data (hc.2 i x y hx hy))
  simpa using this

theorem agg_struct {W : World} {base : Nat} {t : TypeId} {v : Value} {fs : Array Field} (ht : Tryd.prog.underlying t = some (.struct fs)) (h : Value.okWide Tryd.prog W .any base t v) : ∃ cs, v = .agg cs := by
  simp only [Value.okWide, ht] at h
  obtain ⟨cs, h1, _⟩ := h
  exact ⟨cs, h1⟩
theorem agg_array {W : World} {base n e : Nat} {t : TypeId} {v : Value} (ht : Tryd.prog.underlying t = some (.array n e)) (h : Value.okWide Tryd.prog W .any base t v) : ∃ cs, v = .agg cs := by
  simp only [Value.okWide, ht] at h
  obtain ⟨cs, h1, _⟩ := h
  exact ⟨cs, h1⟩

theorem laidOut : laidOutB Tryd.prog = true := by kernel_rfl

theorem below_of_grow {w w' : World} {γ' : Gh} (h : Grow (gh0 w) w γ' w') : RowKit.Below w.heap.size w w' :=
  ⟨h.os, h.tape, h.output, h.size, fun k hk => (h.free k hk rfl).1⟩

end Go.Proofs.YtdiagiflihpidaaDoor
