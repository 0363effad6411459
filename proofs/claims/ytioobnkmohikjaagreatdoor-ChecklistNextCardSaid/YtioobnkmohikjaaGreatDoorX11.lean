/- Arguments opened: what comes in reads as typed data. Conditions: none but that it reads at all.
   Readers of the laws' parameters, printed by a program.
   What is read of a bend.
   tannoylaw10.ChecklistNext: the card. No conditions but the card's own. -/
import Derived.Test.YtioobnkmohikjaaGreatDoorX10
import Derived.OpenShut
import Derived.ChangeArms
import Derived.DataReads
import Derived.Carry
import Derived.SevenTiedAt
import Derived.Test.YtioobnkmohikjaaGreatDoorCards
import Derived.Test.YtioobnkmohikjaaGreatDoorTie
import Derived.KernelRfl
namespace Go.Proofs.YtioobnkmohikjaaGreatDoor
open Go Go.EV Go.ChangeShapes
set_option maxRecDepth 100000
def CellsD (W : World) (l : List V) (cs : List Value) : Prop := cs.length = l.length ∧ ∀ (i : Nat) (c : V) (v : Value), l[i]? = some c → cs[i]? = some v → RepD (gh0 W).lim W c v
theorem CellsD.one {W : World} {c : V} {v : Value} (h : RepD (gh0 W).lim W c v) : CellsD W [c] [v] := ⟨rfl, fun i c' v' hc hv => by
 cases i with
 | zero => simp at hc hv; subst hc; subst hv; exact h
 | succ i => simp at hc⟩
theorem CellsD.append {W : World} {l m : List V} {cs ds : List Value} (h : CellsD W l cs) (k : CellsD W m ds) : CellsD W (l ++ m) (cs ++ ds) :=
  ⟨by simp [h.1, k.1], fun i c v hc hv => by
    by_cases hi : i < l.length
    · rw [List.getElem?_append_left hi] at hc
      rw [List.getElem?_append_left (by rw [h.1]; exact hi)] at hv
      exact h.2 i c v hc hv
    · rw [List.getElem?_append_right (by omega)] at hc
      rw [List.getElem?_append_right (by rw [h.1]; omega), h.1] at hv
      exact k.2 _ c v hc hv⟩
def Rd (t : TypeId) {α : Type} (c : α → List V) (I : α → Prop) : Prop :=
 ∀ (H : Type) (enc : TypeId × Value → H) (W : World) (fuel : Nat) (cs : List Value) (x : DataW H × List MemPlace), DataW.trod enc Tryz.prog W 0 (fun _ => true) true fuel t cs = some x → ∃ a : α, I a ∧ CellsD W (c a) cs
theorem rdInt {t : TypeId} {k : IntKind} (ht : Tryz.prog.underlying t = some (.int k)) : Rd t (fun n : Int => [.int k n]) (fun n => (Lit.int k n).wf = true) := fun H enc W fuel cs x h => by
 obtain ⟨n, rfl, _, hw⟩ := DataW.trod_int ht h
 exact ⟨n, hw, .one (.int k n)⟩
theorem rdBool {t : TypeId} (ht : Tryz.prog.underlying t = some .bool) : Rd t (fun b : Bool => [.bool b]) (fun _ => True) := fun H enc W fuel cs x h => by
 cases fuel with
 | zero => simp [DataW.trod] at h
 | succ n =>
  unfold DataW.trod at h
  rw [ht] at h
  split at h <;> first | exact ⟨_, trivial, .one (.bool _)⟩ | simp_all
theorem rdStr {t : TypeId} (ht : Tryz.prog.underlying t = some .string) : Rd t (fun s : ByteArray => [.str s]) (fun _ => True) := fun H enc W fuel cs x h => by
 cases fuel with
 | zero => simp [DataW.trod] at h
 | succ n =>
  unfold DataW.trod at h
  rw [ht] at h
  split at h <;> simp_all
  exact ⟨_, .one (.str _)⟩
theorem fld {H : Type} {enc : TypeId × Value → H} {W : World} {n : Nat} {fs : Array Field} {cs : List Value} {xs : List (DataW H × List MemPlace)} {t o z : Nat} {α : Type} {c : α → List V} {I : α → Prop}
  (hel : ∀ (i : Nat) (f : Field), fs[i]? = some f → DataW.trod enc Tryz.prog W 0 (fun _ => true) true n f.type ((cs.drop f.offset).take (Tryz.prog.cellsOf f.type)) = xs[i]?) (hn : xs.length = fs.size) (i : Nat)
  (hf : (fs[i]?).map (fun f => (f.type, f.offset)) = some (t, o)) (hz : Tryz.prog.cellsOf t = z) (r : Rd t c I) : ∃ a : α, I a ∧ CellsD W (c a) ((cs.drop o).take z) := by
 obtain ⟨f, h1, h2⟩ := Option.map_eq_some_iff.1 hf
 simp only [Prod.mk.injEq] at h2
 obtain ⟨rfl, rfl⟩ := h2
 have hi : i < xs.length := by rw [hn]; exact (Array.getElem?_eq_some_iff.1 h1).1
 have := hel i f h1
 rw [List.getElem?_eq_getElem hi, hz] at this
 exact r H enc W n _ _ this
theorem fldA {H : Type} {enc : TypeId × Value → H} {W : World} {n m : Nat} {cs : List Value} {xs : List (DataW H × List MemPlace)} {t z : Nat} {α : Type} {c : α → List V} {I : α → Prop}
  (hel : ∀ (i : Nat), i < m → DataW.trod enc Tryz.prog W 0 (fun _ => true) true n t ((cs.drop (i * Tryz.prog.cellsOf t)).take (Tryz.prog.cellsOf t)) = xs[i]?) (hn : xs.length = m) (i : Nat) (hi : i < m)
  (hz : Tryz.prog.cellsOf t = z) (r : Rd t c I) : ∃ a : α, I a ∧ CellsD W (c a) ((cs.drop (i * z)).take z) := by
 have := hel i hi
 rw [List.getElem?_eq_getElem (by omega), hz] at this
 exact r H enc W n _ _ this
theorem cells_at {W : World} {a : Addr} {z : Nat} {ci : List Value} (h : W.cells? 0 a z = some ci) : ci.length = z ∧ ∀ r, r < z → W.cell? (a.add r) = ci[r]? := by
 unfold World.cells? at h
 rw [if_pos (Nat.zero_le _)] at h
 exact ⟨by simpa using mapM_some_length h, fun r hr => mapM_some_get h r r (by simp [hr])⟩
theorem spot_of {W : World} {a : Addr} {z q : Nat} {ci : List Value} (hz : 0 < z) (h : W.cells? 0 (a.add (q * z)) z = some ci) (hq : q = 0) : a.spot = none := by
 obtain ⟨h1, h2⟩ := cells_at h
 have h3 := h2 0 hz
 have e : (a.add (q * z)).add 0 = a := by subst hq; simp [Addr.add]
 rw [e, List.getElem?_eq_getElem (by omega)] at h3
 exact World.cell?_spot h3
theorem rdSlice {t e z : Nat} {α : Type} {ty : Ty α} {I : α → Prop} (ht : Tryz.prog.underlying t = some (.slice e)) (hz : Tryz.prog.cellsOf e = z) (hpos : 0 < z) (hlen : ∀ a, (ty.c a).length = z) (r : Rd e ty.c I) :
  Rd t (fun l : List α => [.sl false z (l.map ty.c)]) (fun l => ∀ a, a ∈ l → I a) := fun H enc W fuel cs x h => by
 rcases DataW.trod_slice ht h with ⟨rfl, -⟩ | ⟨a, len, cap, elems, rest, n, rfl, rfl, -, -, hlc, -, hel, hE, hR, -⟩
 ·exact ⟨[], by simp, .one (.slNil false z)⟩
 rw [hz] at hE hR
 have build : ∀ m, m ≤ len → ∃ l : List α, l.length = m ∧ (∀ a, a ∈ l → I a) ∧ ∀ i x, l[i]? = some x → ∃ ci, W.cells? 0 (a.add (i * z)) z = some ci ∧ CellsD W (ty.c x) ci := by
  intro m
  induction m with
  | zero => intro _; exact ⟨[], rfl, by simp, by simp⟩
  | succ m ih =>
   intro hm
   obtain ⟨l, l1, l2, l3⟩ := ih (by omega)
   have := hE m (by omega)
   rw [List.getElem?_eq_getElem (by omega)] at this
   obtain ⟨ci, hci, htr⟩ := Option.bind_eq_some_iff.1 this
   obtain ⟨y, hy, hcd⟩ := r H enc W n ci _ htr
   refine ⟨l ++ [y], by simp [l1], fun b hb => ?_, fun i x hx => ?_⟩
   ·rcases List.mem_append.1 hb with hb | hb
    ·exact l2 b hb
    ·rw [List.mem_singleton.1 hb]; exact hy
   ·by_cases hi : i < l.length
    ·rw [List.getElem?_append_left hi] at hx; exact l3 i x hx
    ·rw [List.getElem?_append_right (by omega)] at hx
     have hi2 : i - l.length = 0 := by
      have := (List.getElem?_eq_some_iff.1 hx).1
      simp at this; omega
     rw [hi2] at hx; simp at hx; subst hx
     have : i = m := by omega
     subst this
     exact ⟨ci, hci, hcd⟩
 obtain ⟨l, hl, hI, hc⟩ := build len (Nat.le_refl _)
 refine ⟨l, hI, .one ?_⟩
 by_cases hcap : cap = 0
 ·have : l = [] := List.length_eq_zero_iff.1 (by omega)
  subst this
  have h0 : len = 0 := by simpa using hl.symm
  subst h0; subst hcap
  exact .slNil false z (some a)
 have hspot : a.spot = none := by
  by_cases h0 : len = 0
  ·obtain ⟨r1, r2⟩ := hR rfl
   have := r2 0 (by omega)
   rw [List.getElem?_eq_getElem (by omega)] at this
   obtain ⟨ci, hci, _⟩ := Option.bind_eq_some_iff.1 this
   exact spot_of hpos (q := len + 0) hci (by omega)
  ·have := hE 0 (by omega)
   rw [List.getElem?_eq_getElem (by omega)] at this
   obtain ⟨ci, hci, _⟩ := Option.bind_eq_some_iff.1 this
   exact spot_of hpos hci rfl
 obtain ⟨B, o, sp⟩ := a
 simp only at hspot
 subst hspot
 have hsz : ∀ q, q ∈ l.map ty.c → q.length = z := fun q hq => by
  obtain ⟨y, _, rfl⟩ := List.mem_map.1 hq; exact hlen y
 have key : ∀ (i : Nat) (c : V), (l.map ty.c).flatten[i]? = some c → ∃ v, cellAt W B (o + i) = some v ∧ RepD (gh0 W).lim W c v := fun i c hci => by
  have e1 : i = (i / z) * z + i % z := by rw [Nat.mul_comm]; exact (Nat.div_add_mod i z).symm
  have hm := Nat.mod_lt i hpos
  rw [e1, flatten_get _ hsz _ _ hm, List.getElem?_map] at hci
  cases hx : l[i / z]? with
  | none => rw [hx] at hci; simp at hci
  | some y =>
   rw [hx] at hci
   simp only [Option.map_some, Option.bind_some] at hci
   obtain ⟨ci, k1, k2⟩ := hc _ _ hx
   obtain ⟨k3, k4⟩ := cells_at k1
   have k5 := k4 (i % z) hm
   have hv : ci[i % z]? = some (ci[i % z]'(by omega)) := List.getElem?_eq_getElem _
   refine ⟨_, ?_, k2.2 _ _ _ hci hv⟩
   rw [hv] at k5
   rw [Addr.add_eq, Addr.add_eq] at k5
   unfold cellAt
   rw [show o + i = o + (i / z) * z + i % z by omega]
   exact k5
 have fin := RepD.sl (lim := (gh0 W).lim) (w := W) false z (l.map ty.c) B o cap (fun i => (cellAt W B (o + i)).getD default) (by simp; omega) hsz
  (fun i c hci => by obtain ⟨v, v1, v2⟩ := key i c hci; rw [v1]; exact ⟨gh0_lim v1, rfl⟩) (fun i c hci => by obtain ⟨v, v1, v2⟩ := key i c hci; rw [v1]; exact v2)
 rw [List.length_map, hl] at fin
 exact fin
noncomputable def fsOf (t : TypeId) : Array Field := match Tryz.prog.underlying t with | some (.struct f) => f | _ => #[]
theorem open_agg {H : Type} {enc : TypeId × Value → H} {W : World} {t : TypeId} {α : Type} {c : α → List V} {I : α → Prop} (r : Rd t c I) {v : Value} {d : DataW H} {p : List MemPlace} (hv : ∃ cs, v = .agg cs)
  (h : DataW.Trod enc Tryz.prog W 0 (fun _ => true) true t v d p) : ∃ a : α, I a ∧ Rep (gh0 W) W (ofL []) uTop (.agg (c a)) v := by
 obtain ⟨cs, rfl⟩ := hv
 obtain ⟨fuel, hf⟩ := h
 obtain ⟨a, hi, hc⟩ := r H enc W fuel _ _ hf
 refine ⟨a, hi, ?_⟩
 have := Rep.agg (γ := gh0 W) (w := W) (bs := ofL []) (u := uTop) (c a) cs.toList hc.1 (fun i x y hx hy => .data (hc.2 i x y hx hy))
 simpa using this
theorem agg_struct {W : World} {base : Nat} {t : TypeId} {v : Value} {fs : Array Field} (ht : Tryz.prog.underlying t = some (.struct fs)) (h : Value.okWide Tryz.prog W .any base t v) : ∃ cs, v = .agg cs := by
 simp only [Value.okWide, ht] at h
 obtain ⟨cs, h1, _⟩ := h
 exact ⟨cs, h1⟩
theorem agg_array {W : World} {base n e : Nat} {t : TypeId} {v : Value} (ht : Tryz.prog.underlying t = some (.array n e)) (h : Value.okWide Tryz.prog W .any base t v) : ∃ cs, v = .agg cs := by
 simp only [Value.okWide, ht] at h
 obtain ⟨cs, h1, _⟩ := h
 exact ⟨cs, h1⟩
theorem laidOut : laidOutB Tryz.prog = true := by kernel_rfl
theorem below_of_grow {w w' : World} {γ' : Gh} (h : Grow (gh0 w) w γ' w') : RowKit.Below w.heap.size w w' :=
 ⟨h.os, h.tape, h.output, h.size, fun k hk => (h.free k hk rfl).1⟩
section
variable {H : Type} {enc : TypeId × Value → H} {P : Program} {w : World} {base : Nat} {spare : Nat → Bool} {held : Bool}
end
theorem w8_iff {n : Int} (h : (Lit.int .u8 n).wf = true) : 0 ≤ n ∧ n ≤ 255 := by
 simp [Lit.wf, IntKind.min, IntKind.max, IntKind.signed, IntKind.bits] at h; omega
end Go.Proofs.YtioobnkmohikjaaGreatDoor
namespace Go.Proofs.YtioobnkmohikjaaGreatDoor
open Go Go.EV
set_option maxRecDepth 100000
theorem u25 : Tryz.prog.underlying 25 = some (.struct (fsOf 25)) := by kernel_rfl
theorem z25 : Tryz.prog.cellsOf 25 = 4 := by kernel_rfl
theorem u22 : Tryz.prog.underlying 22 = some (.slice 76) := by kernel_rfl
theorem z22 : Tryz.prog.cellsOf 22 = 1 := by kernel_rfl
theorem u76 : Tryz.prog.underlying 76 = some (.struct (fsOf 76)) := by kernel_rfl
theorem z76 : Tryz.prog.cellsOf 76 = 6 := by kernel_rfl
theorem u5 : Tryz.prog.underlying 5 = some (.int .u8) := by kernel_rfl
theorem z5 : Tryz.prog.cellsOf 5 = 1 := by kernel_rfl
theorem u74 : Tryz.prog.underlying 74 = some (.int .u16) := by kernel_rfl
theorem z74 : Tryz.prog.cellsOf 74 = 1 := by kernel_rfl
theorem ln6 {α : Type} {l : List α} (h : l.length = 6) : ∃ v0 v1 v2 v3 v4 v5, l = [v0, v1, v2, v3, v4, v5] := by match l, h with | [v0, v1, v2, v3, v4, v5], _ => exact ⟨v0, v1, v2, v3, v4, v5, rfl⟩
def c76 (x : SDraft) : List V := [.int .u8 x.fKind, .int .u8 x.fComponent, .int .u8 x.fAddr, .int .u8 x.fBase, .int .u8 x.fServer, .int .u16 x.fPreference]
def Ok76 (x : SDraft) : Prop := (Lit.int .u8 x.fKind).wf = true ∧ (Lit.int .u8 x.fComponent).wf = true ∧ (Lit.int .u8 x.fAddr).wf = true ∧ (Lit.int .u8 x.fBase).wf = true ∧ (Lit.int .u8 x.fServer).wf = true ∧ (Lit.int .u16 x.fPreference).wf = true
theorem rd76 : Rd 76 c76 Ok76 := fun H enc W fuel cs x h => by
 obtain ⟨xs, m, rfl, -, hl, hn, hel⟩ := DataW.trod_struct u76 h
 rw [z76] at hl
 obtain ⟨v0, v1, v2, v3, v4, v5, rfl⟩ := ln6 hl
 obtain ⟨a0, i0, k0⟩ := fld hel hn 0 (t := 5) (o := 0) (by kernel_rfl) z5 (rdInt u5)
 obtain ⟨a1, i1, k1⟩ := fld hel hn 1 (t := 5) (o := 1) (by kernel_rfl) z5 (rdInt u5)
 obtain ⟨a2, i2, k2⟩ := fld hel hn 2 (t := 5) (o := 2) (by kernel_rfl) z5 (rdInt u5)
 obtain ⟨a3, i3, k3⟩ := fld hel hn 3 (t := 5) (o := 3) (by kernel_rfl) z5 (rdInt u5)
 obtain ⟨a4, i4, k4⟩ := fld hel hn 4 (t := 5) (o := 4) (by kernel_rfl) z5 (rdInt u5)
 obtain ⟨a5, i5, k5⟩ := fld hel hn 5 (t := 74) (o := 5) (by kernel_rfl) z74 (rdInt u74)
 exact ⟨⟨a0, a1, a2, a3, a4, a5⟩, ⟨i0, i1, i2, i3, i4, i5⟩, k0.append (k1.append (k2.append (k3.append (k4.append k5))))⟩
def Ok22 (l : List SDraft) : Prop := ∀ a, a ∈ l → Ok76 a
theorem rd22 : Rd 22 (fun l : List SDraft => [.sl false 6 (l.map tySDraft.c)]) Ok22 := rdSlice (ty := tySDraft) u22 z76 (by omega) (fun _ => rfl) rd76
theorem u4 : Tryz.prog.underlying 4 = some .bool := by kernel_rfl
theorem z4 : Tryz.prog.cellsOf 4 = 1 := by kernel_rfl
theorem u23 : Tryz.prog.underlying 23 = some (.slice 60) := by kernel_rfl
theorem z23 : Tryz.prog.cellsOf 23 = 1 := by kernel_rfl
theorem u60 : Tryz.prog.underlying 60 = some (.array 2 5) := by kernel_rfl
theorem z60 : Tryz.prog.cellsOf 60 = 2 := by kernel_rfl
theorem ln2 {α : Type} {l : List α} (h : l.length = 2) : ∃ v0 v1, l = [v0, v1] := by match l, h with | [v0, v1], _ => exact ⟨v0, v1, rfl⟩
def c60 (x : S2Uint8) : List V := [.int .u8 x.a0, .int .u8 x.a1]
def Ok60 (x : S2Uint8) : Prop := (Lit.int .u8 x.a0).wf = true ∧ (Lit.int .u8 x.a1).wf = true
theorem rd60 : Rd 60 c60 Ok60 := fun H enc W fuel cs x h => by
 obtain ⟨xs, m, rfl, -, hl, hn, hel⟩ := DataW.trod_array u60 h
 rw [z60] at hl
 obtain ⟨v0, v1, rfl⟩ := ln2 hl
 obtain ⟨a0, i0, k0⟩ := fldA hel hn 0 (by omega) z5 (rdInt u5)
 obtain ⟨a1, i1, k1⟩ := fldA hel hn 1 (by omega) z5 (rdInt u5)
 exact ⟨⟨a0, a1⟩, ⟨i0, i1⟩, k0.append k1⟩
def Ok23 (l : List S2Uint8) : Prop := ∀ a, a ∈ l → Ok60 a
theorem rd23 : Rd 23 (fun l : List S2Uint8 => [.sl false 2 (l.map tyS2Uint8.c)]) Ok23 := rdSlice (ty := tyS2Uint8) u23 z60 (by omega) (fun _ => rfl) rd60
theorem ln4 {α : Type} {l : List α} (h : l.length = 4) : ∃ v0 v1 v2 v3, l = [v0, v1, v2, v3] := by match l, h with | [v0, v1, v2, v3], _ => exact ⟨v0, v1, v2, v3, rfl⟩
def c25 (x : SDraft1) : List V := [.sl false 6 (List.map tySDraft.c x.fLocals), .sl false 6 (List.map tySDraft.c x.fRemotes), .bool x.fControlling, .sl false 2 (List.map tyS2Uint8.c x.fSet)]
def Ok25 (x : SDraft1) : Prop := Ok22 x.fLocals ∧ Ok22 x.fRemotes ∧ True ∧ Ok23 x.fSet
theorem rd25 : Rd 25 c25 Ok25 := fun H enc W fuel cs x h => by
 obtain ⟨xs, m, rfl, -, hl, hn, hel⟩ := DataW.trod_struct u25 h
 rw [z25] at hl
 obtain ⟨v0, v1, v2, v3, rfl⟩ := ln4 hl
 obtain ⟨a0, i0, k0⟩ := fld hel hn 0 (t := 22) (o := 0) (by kernel_rfl) z22 rd22
 obtain ⟨a1, i1, k1⟩ := fld hel hn 1 (t := 22) (o := 1) (by kernel_rfl) z22 rd22
 obtain ⟨a2, i2, k2⟩ := fld hel hn 2 (t := 4) (o := 2) (by kernel_rfl) z4 (rdBool u4)
 obtain ⟨a3, i3, k3⟩ := fld hel hn 3 (t := 23) (o := 3) (by kernel_rfl) z23 rd23
 exact ⟨⟨a0, a1, a2, a3⟩, ⟨i0, i1, i2, i3⟩, k0.append (k1.append (k2.append k3))⟩
theorem u49 : Tryz.prog.underlying 49 = some (.array 2 48) := by kernel_rfl
theorem z49 : Tryz.prog.cellsOf 49 = 16 := by kernel_rfl
theorem u48 : Tryz.prog.underlying 48 = some (.struct (fsOf 48)) := by kernel_rfl
theorem z48 : Tryz.prog.cellsOf 48 = 8 := by kernel_rfl
theorem u3 : Tryz.prog.underlying 3 = some (.int .i64) := by kernel_rfl
theorem z3 : Tryz.prog.cellsOf 3 = 1 := by kernel_rfl
theorem u29 : Tryz.prog.underlying 29 = some (.struct (fsOf 29)) := by kernel_rfl
theorem z29 : Tryz.prog.cellsOf 29 = 5 := by kernel_rfl
theorem u9 : Tryz.prog.underlying 9 = some .string := by kernel_rfl
theorem z9 : Tryz.prog.cellsOf 9 = 1 := by kernel_rfl
theorem u27 : Tryz.prog.underlying 27 = some (.struct (fsOf 27)) := by kernel_rfl
theorem z27 : Tryz.prog.cellsOf 27 = 2 := by kernel_rfl
def c27 (x : SAddr) : List V := [.str x.fHost, .int .i64 x.fPort]
def Ok27 (x : SAddr) : Prop := True ∧ (Lit.int .i64 x.fPort).wf = true
theorem rd27 : Rd 27 c27 Ok27 := fun H enc W fuel cs x h => by
 obtain ⟨xs, m, rfl, -, hl, hn, hel⟩ := DataW.trod_struct u27 h
 rw [z27] at hl
 obtain ⟨v0, v1, rfl⟩ := ln2 hl
 obtain ⟨a0, i0, k0⟩ := fld hel hn 0 (t := 9) (o := 0) (by kernel_rfl) z9 (rdStr u9)
 obtain ⟨a1, i1, k1⟩ := fld hel hn 1 (t := 3) (o := 1) (by kernel_rfl) z3 (rdInt u3)
 exact ⟨⟨a0, a1⟩, ⟨i0, i1⟩, k0.append k1⟩
theorem ln5 {α : Type} {l : List α} (h : l.length = 5) : ∃ v0 v1 v2 v3 v4, l = [v0, v1, v2, v3, v4] := by match l, h with | [v0, v1, v2, v3, v4], _ => exact ⟨v0, v1, v2, v3, v4, rfl⟩
def c29 (x : SBend) : List V := [.int .u8 x.fWhat, .int .i64 x.fN, .str x.fS, .str x.fA.fHost, .int .i64 x.fA.fPort]
def Ok29 (x : SBend) : Prop := (Lit.int .u8 x.fWhat).wf = true ∧ (Lit.int .i64 x.fN).wf = true ∧ True ∧ Ok27 x.fA
theorem rd29 : Rd 29 c29 Ok29 := fun H enc W fuel cs x h => by
 obtain ⟨xs, m, rfl, -, hl, hn, hel⟩ := DataW.trod_struct u29 h
 rw [z29] at hl
 obtain ⟨v0, v1, v2, v3, v4, rfl⟩ := ln5 hl
 obtain ⟨a0, i0, k0⟩ := fld hel hn 0 (t := 5) (o := 0) (by kernel_rfl) z5 (rdInt u5)
 obtain ⟨a1, i1, k1⟩ := fld hel hn 1 (t := 3) (o := 1) (by kernel_rfl) z3 (rdInt u3)
 obtain ⟨a2, i2, k2⟩ := fld hel hn 2 (t := 9) (o := 2) (by kernel_rfl) z9 (rdStr u9)
 obtain ⟨a3, i3, k3⟩ := fld hel hn 3 (t := 27) (o := 3) (by kernel_rfl) z27 rd27
 exact ⟨⟨a0, a1, a2, a3⟩, ⟨i0, i1, i2, i3⟩, k0.append (k1.append (k2.append k3))⟩
theorem ln8 {α : Type} {l : List α} (h : l.length = 8) : ∃ v0 v1 v2 v3 v4 v5 v6 v7, l = [v0, v1, v2, v3, v4, v5, v6, v7] := by match l, h with | [v0, v1, v2, v3, v4, v5, v6, v7], _ => exact ⟨v0, v1, v2, v3, v4, v5, v6, v7, rfl⟩
def c48 (x : SBend1) : List V := [.int .u8 x.fWhat, .int .u8 x.fAt, .int .i64 x.fN, .int .u8 x.fC.fWhat, .int .i64 x.fC.fN, .str x.fC.fS, .str x.fC.fA.fHost, .int .i64 x.fC.fA.fPort]
def Ok48 (x : SBend1) : Prop := (Lit.int .u8 x.fWhat).wf = true ∧ (Lit.int .u8 x.fAt).wf = true ∧ (Lit.int .i64 x.fN).wf = true ∧ Ok29 x.fC
theorem rd48 : Rd 48 c48 Ok48 := fun H enc W fuel cs x h => by
 obtain ⟨xs, m, rfl, -, hl, hn, hel⟩ := DataW.trod_struct u48 h
 rw [z48] at hl
 obtain ⟨v0, v1, v2, v3, v4, v5, v6, v7, rfl⟩ := ln8 hl
 obtain ⟨a0, i0, k0⟩ := fld hel hn 0 (t := 5) (o := 0) (by kernel_rfl) z5 (rdInt u5)
 obtain ⟨a1, i1, k1⟩ := fld hel hn 1 (t := 5) (o := 1) (by kernel_rfl) z5 (rdInt u5)
 obtain ⟨a2, i2, k2⟩ := fld hel hn 2 (t := 3) (o := 2) (by kernel_rfl) z3 (rdInt u3)
 obtain ⟨a3, i3, k3⟩ := fld hel hn 3 (t := 29) (o := 3) (by kernel_rfl) z29 rd29
 exact ⟨⟨a0, a1, a2, a3⟩, ⟨i0, i1, i2, i3⟩, k0.append (k1.append (k2.append k3))⟩
theorem ln16 {α : Type} {l : List α} (h : l.length = 16) : ∃ v0 v1 v2 v3 v4 v5 v6 v7 v8 v9 v10 v11 v12 v13 v14 v15, l = [v0, v1, v2, v3, v4, v5, v6, v7, v8, v9, v10, v11, v12, v13, v14, v15] := by match l, h with | [v0, v1, v2, v3, v4, v5, v6, v7, v8, v9, v10, v11, v12, v13, v14, v15], _ => exact ⟨v0, v1, v2, v3, v4, v5, v6, v7, v8, v9, v10, v11, v12, v13, v14, v15, rfl⟩
def c49 (x : S2Tannoyref10Bend) : List V := [.int .u8 x.a0.fWhat, .int .u8 x.a0.fAt, .int .i64 x.a0.fN, .int .u8 x.a0.fC.fWhat, .int .i64 x.a0.fC.fN, .str x.a0.fC.fS, .str x.a0.fC.fA.fHost, .int .i64 x.a0.fC.fA.fPort, .int .u8 x.a1.fWhat, .int .u8 x.a1.fAt, .int .i64 x.a1.fN, .int .u8 x.a1.fC.fWhat, .int .i64 x.a1.fC.fN, .str x.a1.fC.fS, .str x.a1.fC.fA.fHost, .int .i64 x.a1.fC.fA.fPort]
def Ok49 (x : S2Tannoyref10Bend) : Prop := Ok48 x.a0 ∧ Ok48 x.a1
theorem rd49 : Rd 49 c49 Ok49 := fun H enc W fuel cs x h => by
 obtain ⟨xs, m, rfl, -, hl, hn, hel⟩ := DataW.trod_array u49 h
 rw [z49] at hl
 obtain ⟨v0, v1, v2, v3, v4, v5, v6, v7, v8, v9, v10, v11, v12, v13, v14, v15, rfl⟩ := ln16 hl
 obtain ⟨a0, i0, k0⟩ := fldA hel hn 0 (by omega) z48 rd48
 obtain ⟨a1, i1, k1⟩ := fldA hel hn 1 (by omega) z48 rd48
 exact ⟨⟨a0, a1⟩, ⟨i0, i1⟩, k0.append k1⟩
theorem u41 : Tryz.prog.underlying 41 = some (.struct (fsOf 41)) := by kernel_rfl
theorem z41 : Tryz.prog.cellsOf 41 = 4 := by kernel_rfl
theorem u31 : Tryz.prog.underlying 31 = some (.slice 34) := by kernel_rfl
theorem z31 : Tryz.prog.cellsOf 31 = 1 := by kernel_rfl
theorem u34 : Tryz.prog.underlying 34 = some (.struct (fsOf 34)) := by kernel_rfl
theorem z34 : Tryz.prog.cellsOf 34 = 8 := by kernel_rfl
def c34 (x : SCandidate) : List V := [.int .i64 x.fKind, .int .i64 x.fComponent, .int .i64 x.fPriority, .str x.fFoundation, .str x.fAddr.fHost, .int .i64 x.fAddr.fPort, .str x.fBase.fHost, .int .i64 x.fBase.fPort]
def Ok34 (x : SCandidate) : Prop := (Lit.int .i64 x.fKind).wf = true ∧ (Lit.int .i64 x.fComponent).wf = true ∧ (Lit.int .i64 x.fPriority).wf = true ∧ True ∧ Ok27 x.fAddr ∧ Ok27 x.fBase
theorem rd34 : Rd 34 c34 Ok34 := fun H enc W fuel cs x h => by
 obtain ⟨xs, m, rfl, -, hl, hn, hel⟩ := DataW.trod_struct u34 h
 rw [z34] at hl
 obtain ⟨v0, v1, v2, v3, v4, v5, v6, v7, rfl⟩ := ln8 hl
 obtain ⟨a0, i0, k0⟩ := fld hel hn 0 (t := 3) (o := 0) (by kernel_rfl) z3 (rdInt u3)
 obtain ⟨a1, i1, k1⟩ := fld hel hn 1 (t := 3) (o := 1) (by kernel_rfl) z3 (rdInt u3)
 obtain ⟨a2, i2, k2⟩ := fld hel hn 2 (t := 3) (o := 2) (by kernel_rfl) z3 (rdInt u3)
 obtain ⟨a3, i3, k3⟩ := fld hel hn 3 (t := 9) (o := 3) (by kernel_rfl) z9 (rdStr u9)
 obtain ⟨a4, i4, k4⟩ := fld hel hn 4 (t := 27) (o := 4) (by kernel_rfl) z27 rd27
 obtain ⟨a5, i5, k5⟩ := fld hel hn 5 (t := 27) (o := 6) (by kernel_rfl) z27 rd27
 exact ⟨⟨a0, a1, a2, a3, a4, a5⟩, ⟨i0, i1, i2, i3, i4, i5⟩, k0.append (k1.append (k2.append (k3.append (k4.append k5))))⟩
def Ok31 (l : List SCandidate) : Prop := ∀ a, a ∈ l → Ok34 a
theorem rd31 : Rd 31 (fun l : List SCandidate => [.sl false 8 (l.map tySCandidate.c)]) Ok31 := rdSlice (ty := tySCandidate) u31 z34 (by omega) (fun _ => rfl) rd34
theorem u39 : Tryz.prog.underlying 39 = some (.slice 68) := by kernel_rfl
theorem z39 : Tryz.prog.cellsOf 39 = 1 := by kernel_rfl
theorem u68 : Tryz.prog.underlying 68 = some (.struct (fsOf 68)) := by kernel_rfl
theorem z68 : Tryz.prog.cellsOf 68 = 4 := by kernel_rfl
def c68 (x : SPair) : List V := [.int .i64 x.fLocal, .int .i64 x.fRemote, .int .i64 x.fPriority, .int .i64 x.fState]
def Ok68 (x : SPair) : Prop := (Lit.int .i64 x.fLocal).wf = true ∧ (Lit.int .i64 x.fRemote).wf = true ∧ (Lit.int .i64 x.fPriority).wf = true ∧ (Lit.int .i64 x.fState).wf = true
theorem rd68 : Rd 68 c68 Ok68 := fun H enc W fuel cs x h => by
 obtain ⟨xs, m, rfl, -, hl, hn, hel⟩ := DataW.trod_struct u68 h
 rw [z68] at hl
 obtain ⟨v0, v1, v2, v3, rfl⟩ := ln4 hl
 obtain ⟨a0, i0, k0⟩ := fld hel hn 0 (t := 3) (o := 0) (by kernel_rfl) z3 (rdInt u3)
 obtain ⟨a1, i1, k1⟩ := fld hel hn 1 (t := 3) (o := 1) (by kernel_rfl) z3 (rdInt u3)
 obtain ⟨a2, i2, k2⟩ := fld hel hn 2 (t := 3) (o := 2) (by kernel_rfl) z3 (rdInt u3)
 obtain ⟨a3, i3, k3⟩ := fld hel hn 3 (t := 3) (o := 3) (by kernel_rfl) z3 (rdInt u3)
 exact ⟨⟨a0, a1, a2, a3⟩, ⟨i0, i1, i2, i3⟩, k0.append (k1.append (k2.append k3))⟩
def Ok39 (l : List SPair) : Prop := ∀ a, a ∈ l → Ok68 a
theorem rd39 : Rd 39 (fun l : List SPair => [.sl false 4 (l.map tySPair.c)]) Ok39 := rdSlice (ty := tySPair) u39 z68 (by omega) (fun _ => rfl) rd68
def c41 (x : SList) : List V := [.bool x.fControlling, .sl false 8 (List.map tySCandidate.c x.fLocals), .sl false 8 (List.map tySCandidate.c x.fRemotes), .sl false 4 (List.map tySPair.c x.fPairs)]
def Ok41 (x : SList) : Prop := True ∧ Ok31 x.fLocals ∧ Ok31 x.fRemotes ∧ Ok39 x.fPairs
theorem rd41 : Rd 41 c41 Ok41 := fun H enc W fuel cs x h => by
 obtain ⟨xs, m, rfl, -, hl, hn, hel⟩ := DataW.trod_struct u41 h
 rw [z41] at hl
 obtain ⟨v0, v1, v2, v3, rfl⟩ := ln4 hl
 obtain ⟨a0, i0, k0⟩ := fld hel hn 0 (t := 4) (o := 0) (by kernel_rfl) z4 (rdBool u4)
 obtain ⟨a1, i1, k1⟩ := fld hel hn 1 (t := 31) (o := 1) (by kernel_rfl) z31 rd31
 obtain ⟨a2, i2, k2⟩ := fld hel hn 2 (t := 31) (o := 2) (by kernel_rfl) z31 rd31
 obtain ⟨a3, i3, k3⟩ := fld hel hn 3 (t := 39) (o := 3) (by kernel_rfl) z39 rd39
 exact ⟨⟨a0, a1, a2, a3⟩, ⟨i0, i1, i2, i3⟩, k0.append (k1.append (k2.append k3))⟩
end Go.Proofs.YtioobnkmohikjaaGreatDoor
namespace Go.Proofs.YtioobnkmohikjaaGreatDoor
open Go Go.EV
set_option maxRecDepth 100000
def BendsOk (b : S2Tannoyref10Bend) : Prop := (0 ≤ b.a0.fAt ∧ b.a0.fAt ≤ 255) ∧ (0 ≤ b.a1.fAt ∧ b.a1.fAt ≤ 255)
theorem bends_of {b : S2Tannoyref10Bend} (h : Ok49 b) : BendsOk b := ⟨w8_iff h.1.2.1, w8_iff h.2.2.1⟩
end Go.Proofs.YtioobnkmohikjaaGreatDoor
namespace Go.Proofs.YtioobnkmohikjaaGreatDoor
open Go Go.EV Go.ChangeShapes Go.WideShapes Go.ChangeAt Go.RowKit
set_option maxRecDepth 100000
theorem calls4 {w : World} (h : laidMetH Tryz.prog laid1 w) {v0 v1 v2 : Value} {x0 : SDraft1} {x1 : S2Tannoyref10Bend} {x2 : SList} (hb : BendsOk x1)
  (r0 : Rep (gh0 w) w (ofL []) uTop (.agg (c25 x0)) v0) (r1 : Rep (gh0 w) w (ofL []) uTop (.agg (c49 x1)) v1) (r2 : Rep (gh0 w) w (ofL []) uTop (.agg (c41 x2)) v2) :
  Calls Tryz.prog 4 #[v0, v1, v2] w fun e w' => e = .returned (.bool true) ∧ ∃ γ', Grow (gh0 w) w γ' w' := by
 have c : CallC Tryz.prog GG 4 [.agg (c25 x0), .agg (c49 x1), .agg (c41 x2)] (ofL []) (.bool true) (ofL []) := (s4 x0 x1 x2).ok true (SOk.eq (okLNEXT x0 x1 x2 hb.1 hb.2))
 refine (c (gh0 w) w #[v0, v1, v2] (globOk h) (fun B x hx => by simp [gh0] at hx) ⟨rfl, fun i c v hc hv => ?_⟩ (fun b k hb => by simp [ofL] at hb)).mono fun e w' hq => ?_
 ·match i, hc, hv with
  | 0, hc, hv => simp at hc hv; subst hc; subst hv; exact r0
  | 1, hc, hv => simp at hc hv; subst hc; subst hv; exact r1
  | 2, hc, hv => simp at hc hv; subst hc; subst hv; exact r2
  | n + 3, hc, hv => simp at hc
 ·obtain ⟨v, γ', rfl, hg, _, hr, _⟩ := hq
  have := hr.bool_inv
  subst this
  exact ⟨rfl, γ', hg⟩
noncomputable def zero4 : Array Value := #[.agg #[.slice none 0 0, .slice none 0 0, .bool false, .slice none 0 0],
 .agg #[.int .u8 0, .int .u8 0, .int .i64 0, .int .u8 0, .int .i64 0, .string ByteArray.empty, .string ByteArray.empty, .int .i64 0, .int .u8 0, .int .u8 0, .int .i64 0, .int .u8 0, .int .i64 0, .string ByteArray.empty, .string ByteArray.empty, .int .i64 0],
 .agg #[.bool false, .slice none 0 0, .slice none 0 0, .slice none 0 0]]
theorem lifted4 (os : Os) (started : os.Started) (H : Type) (enc : TypeId × Value → H) :
  ReturnsInHanded {} Tryz.checked os 4 .any (fun w args => (Rows.checklistNextSpec.pre enc Tryz.prog Tryz.f4 [] false w args ∧ laidMetH Tryz.prog laid1 w) ∧ sizedMet enc Tryz.prog Tryz.f4 (OpenSpec.ofChange Rows.checklistNextSpec) false w args)
   (Rows.checklistNextSpec.post enc Tryz.prog Tryz.f4 false true false false) := by
 refine returnsInHanded_of_change_and (C := Tryz.checked) (X := fun w _ => laidMetH Tryz.prog laid1 w) (fun _ _ _ hh h => h.of_heap hh) own started (by kernel_rfl) Tryz.func4
  (ChangeSpec.witness_shaped (enc := enc) (C := Tryz.checked) (os := os) (X := fun w _ => laidMetH Tryz.prog laid1 w) false (World.laidAll Tryz.prog os laid1) zero4 8 (World.laidAll_os _ _ _) (shaped1 os) (by kernel_rfl) (by kernel_rfl) (by kernel_rfl) (laid_met os _)) ?_
 intro W base args ds gs before hval0 hW _ _ hL _
 have hval : ∀ (j : Nat) t v, Tryz.f4.params[j]? = some t → args[j]? = some v → Value.okWide Tryz.prog W .any base t v := hval0
 have hW' := hW
 have hlt0 := DataW.Whole.lt hW
 obtain ⟨p, q, hA0, hV, rfl, hfz, hnd⟩ := hW
 have hA : DataW.TrodAll enc Tryz.prog W 0 (fun _ => true) true Tryz.f4.params.toList args.toList ds p := hA0
 rw [Tryz.params4] at hA hval
 obtain ⟨rfl, rfl⟩ := trodVars_none hV
 obtain ⟨v0, v1, v2, d0, d1, d2, p0, p1, p2, rfl, rfl, rfl, h0, h1, h2⟩ := trodAll_three hA
 obtain ⟨x0, i0, r0⟩ := open_agg rd25 (agg_struct u25 (hval 0 25 v0 rfl rfl)) h0
 obtain ⟨x1, i1, r1⟩ := open_agg rd49 (agg_array u49 (hval 1 49 v1 rfl rfl)) h1
 obtain ⟨x2, i2, r2⟩ := open_agg rd41 (agg_struct u41 (hval 2 41 v2 rfl rfl)) h2
 refine (calls4 hL (bends_of i1) r0 r1 r2).mono fun e W' ⟨he, γ', hg⟩ => ?_
 subst he
 have hb := below_of_grow hg
 refine ⟨_, rfl, [d0, d1, d2], [], _, [], (p0 ++ (p1 ++ p2)), [], hW', trodAll_mk1 (shut_bool u4 true), ?_, rfl, keptBut_of_grow hg _, fun h => by cases h⟩
 show DataW.TrodAll enc Tryz.prog W' 0 (fun b => decide (b < W.heap.size)) true Tryz.f4.params.toList [v0, v1, v2] [d0, d1, d2] _
 rw [Tryz.params4]
 exact trodAll_mk3
  (Below.trod laidOut (by kernel_rfl) (of_decide_eq_true (by kernel_rfl)) h0 hb (fun x hx => hlt0 x (by simp [hx])))
  (Below.trod laidOut (by kernel_rfl) (of_decide_eq_true (by kernel_rfl)) h1 hb (fun x hx => hlt0 x (by simp [hx])))
  (Below.trod laidOut (by kernel_rfl) (of_decide_eq_true (by kernel_rfl)) h2 hb (fun x hx => hlt0 x (by simp [hx])))
theorem holds4 : Rows.ChecklistNextSaid :=
 OpenClaim.holds_of_wide 4 Tryz.f4 rfl rfl rfl rfl rfl rfl rfl ⟨rfl, rfl, rfl, rfl, rfl⟩ rfl rfl rfl rfl rfl (by kernel_rfl) Tryz.func4 (by kernel_rfl)
  (of_decide_eq_true (by kernel_rfl)) (by unfold Func.isWrapper; first | (rw [if_pos (by decide +kernel)]; kernel_rfl) | (rw [if_neg (by decide +kernel)]; exact ⟨rfl, rfl⟩))
  (fun os started H enc _ => lifted4 os started H enc)
theorem checklistNext_card : Rows.ChecklistNextCardSaid :=
 Claim7.holds_tied_plain_at .later [] [.data, .data, .data, .data, .pinned] true (true, "da77e1865ae41b40c25bcb37cb32671b9f8664367b1765c519293e1f7c122044") false
  holds4 (fun _ h => by cases h) (by kernel_rfl) (fun _ h => by cases h) checklistNext_row_tie rfl ⟨rfl, rfl⟩ (by kernel_rfl) rfl
  (fun f fn hf hfn => by
   obtain rfl : f = 4 := Option.some.inj ((show Tryz.prog.funcNamed "tannoy/tannoylaw10.ChecklistNext" = some 4 by kernel_rfl).symm.trans hf) |>.symm
   obtain rfl : fn = Tryz.f4 := (Option.some.inj (Tryz.func4.symm.trans hfn)).symm
   exact ⟨by kernel_rfl, fun j t ht => by
    rw [Tryz.params4] at ht
    have hm : t ∈ [25, 49, 41] := by simpa using Array.mem_of_getElem? ht
    have hall : ([25, 49, 41].all fun u => !Tryz.prog.wantsStandIn u) = true := by kernel_rfl
    exact (show Tryz.prog.wantsStandIn t = false by simpa using List.all_eq_true.1 hall t hm)⟩)
  (by kernel_rfl)
end Go.Proofs.YtioobnkmohikjaaGreatDoor
