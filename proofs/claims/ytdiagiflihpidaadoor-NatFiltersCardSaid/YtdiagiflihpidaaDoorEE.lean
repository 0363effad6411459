/- tannoylaw13.NatFilters: the card. No conditions but the card's own. -/
import Derived.Test.YtdiagiflihpidaaDoorED
import Derived.Test.YtdiagiflihpidaaDoorE0
import Derived.Test.YtdiagiflihpidaaDoorCards
import Derived.Test.YtdiagiflihpidaaDoorTie
namespace Go.Proofs.YtdiagiflihpidaaDoor
open Go Go.EV Go.ChangeShapes Go.WideShapes Go.ChangeAt Go.RowKit
set_option maxRecDepth 100000

theorem calls8 {w : World} (h : laidMetH Tryd.prog laid1 w) {v0 v1 v2 v3 : Value} {x0 : SDraft} {x1 : SMove1} {x2 : Int} {x3 : Int} (hd : DraftOk x0) (hp : 0 ≤ x3)
    (r0 : Rep (gh0 w) w (ofL []) uTop (.agg (cDraft x0)) v0) (r1 : Rep (gh0 w) w (ofL []) uTop (.agg (cMv x1)) v1) (r2 : Rep (gh0 w) w (ofL []) uTop (.int .u8 x2) v2) (r3 : Rep (gh0 w) w (ofL []) uTop (.int .u8 x3) v3) :
    Calls Tryd.prog 8 #[v0, v1, v2, v3] w fun e w' => e = .returned (.bool true) ∧ ∃ γ', Grow (gh0 w) w γ' w' := by
  have c : CallC Tryd.prog GG 8 [.agg (cDraft x0), .agg (cMv x1), .int .u8 x2, .int .u8 x3] (ofL []) (.bool true) (ofL []) := (s8 x0 x1 x2 x3).ok true (SOk.eq (ok8 x0 x1 x2 x3 hd hp))
  refine (c (gh0 w) w #[v0, v1, v2, v3] (globOk h) (fun B x hx => by simp [gh0] at hx) ⟨rfl, fun i c v hc hv => ?_⟩ (fun b k hb => by simp [ofL] at hb)).mono fun e w' hq => ?_
  · match i, hc, hv with
    | 0, hc, hv => simp at hc hv; subst hc; subst hv; exact r0
    | 1, hc, hv => simp at hc hv; subst hc; subst hv; exact r1
    | 2, hc, hv => simp at hc hv; subst hc; subst hv; exact r2
    | 3, hc, hv => simp at hc hv; subst hc; subst hv; exact r3
    | n + 4, hc, hv => simp at hc
  · obtain ⟨v, γ', rfl, hg, _, hr, _⟩ := hq
    have := hr.bool_inv
    subst this
    exact ⟨rfl, γ', hg⟩

noncomputable def zero8 : Array Value := #[.agg #[.int .u8 0, .int .u8 0, .int .u8 0, .int .u16 0, .bool false, .slice none 0 0],
  .agg #[.int .u8 0, .int .u8 0, .int .u16 0, .int .i64 0, .string ByteArray.empty, .int .i64 0, .string ByteArray.empty, .int .i64 0],
  .int .u8 0,
  .int .u8 0]

theorem lifted8 (os : Os) (started : os.Started) (H : Type) (enc : TypeId × Value → H) :
    ReturnsInHanded {} Tryd.checked os 8 .any (fun w args => (Rows.natFiltersSpec.pre enc Tryd.prog Tryd.f8 [] false w args ∧ laidMetH Tryd.prog laid1 w) ∧ sizedMet enc Tryd.prog Tryd.f8 (OpenSpec.ofChange Rows.natFiltersSpec) false w args)
      (Rows.natFiltersSpec.post enc Tryd.prog Tryd.f8 false true false false) := by
  refine returnsInHanded_of_change_and (C := Tryd.checked) (X := fun w _ => laidMetH Tryd.prog laid1 w) (fun _ _ _ hh h => h.of_heap hh) own started (by kernel_rfl) Tryd.func8
    (ChangeSpec.witness_shaped (enc := enc) (C := Tryd.checked) (os := os) (X := fun w _ => laidMetH Tryd.prog laid1 w) false (World.doorLaid Tryd.prog 14 os) zero8 8 rfl (World.shaped_of_RefB (by kernel_rfl) (by kernel_rfl)) (by kernel_rfl) (by kernel_rfl) (by kernel_rfl) (door_met os _)) ?_
  intro W base args ds gs before hval0 hW _ _ hL _
  have hval : ∀ (j : Nat) t v, Tryd.f8.params[j]? = some t → args[j]? = some v → Value.okWide Tryd.prog W .any base t v := hval0
  have hW' := hW
  have hlt0 := DataW.Whole.lt hW
  obtain ⟨p, q, hA0, hV, rfl, hfz, hnd⟩ := hW
  have hA : DataW.TrodAll enc Tryd.prog W 0 (fun _ => true) true Tryd.f8.params.toList args.toList ds p := hA0
  rw [Tryd.params8] at hA hval
  obtain ⟨rfl, rfl⟩ := trodVars_none hV
  obtain ⟨v0, v1, v2, v3, d0, d1, d2, d3, p0, p1, p2, p3, rfl, rfl, rfl, h0, h1, h2, h3⟩ := trodAll_four hA
  obtain ⟨x0, i0, r0⟩ := open_agg rdDraft (agg_struct u25 (hval 0 25 v0 rfl rfl)) h0
  obtain ⟨x1, i1, r1⟩ := open_agg rdMv (agg_struct u35 (hval 1 35 v1 rfl rfl)) h1
  obtain ⟨x2, i2, q2⟩ := open_one (rdInt u5) (int_one u5 (hval 2 5 v2 rfl rfl)) h2
  have r2 := q2 _ rfl
  obtain ⟨x3, i3, q3⟩ := open_one (rdInt u5) (int_one u5 (hval 3 5 v3 rfl rfl)) h3
  have r3 := q3 _ rfl
  refine (calls8 hL ⟨(w8_iff i0.1).1, (w8_iff i0.2.1).1, (w8_iff i0.2.2.1).1, (w16_iff i0.2.2.2.1).1⟩ (w8_iff i3).1 r0 r1 r2 r3).mono fun e W' ⟨he, γ', hg⟩ => ?_
  subst he
  have hb := below_of_grow hg
  refine ⟨_, rfl, [d0, d1, d2, d3], [], _, [], (p0 ++ (p1 ++ (p2 ++ p3))), [], hW', trodAll_mk1 (shut_bool u4 true), ?_, rfl, keptBut_of_grow hg _, fun h => by cases h⟩
  show DataW.TrodAll enc Tryd.prog W' 0 (fun b => decide (b < W.heap.size)) true Tryd.f8.params.toList [v0, v1, v2, v3] [d0, d1, d2, d3] _
  rw [Tryd.params8]
  exact trodAll_mk4
    (Below.trod laidOut (by kernel_rfl) (of_decide_eq_true (by kernel_rfl)) h0 hb (fun x hx => hlt0 x (by simp [hx])))
    (Below.trod laidOut (by kernel_rfl) (of_decide_eq_true (by kernel_rfl)) h1 hb (fun x hx => hlt0 x (by simp [hx])))
    (Below.trod laidOut (by kernel_rfl) (of_decide_eq_true (by kernel_rfl)) h2 hb (fun x hx => hlt0 x (by simp [hx])))
    (Below.trod laidOut (by kernel_rfl) (of_decide_eq_true (by kernel_rfl)) h3 hb (fun x hx => hlt0 x (by simp [hx])))

theorem holds8 : Rows.NatFiltersSaid :=
  OpenClaim.holds_of_wide 8 Tryd.f8 rfl rfl rfl rfl rfl rfl rfl ⟨rfl, rfl, rfl, rfl, rfl⟩ rfl rfl rfl rfl rfl (by kernel_rfl) Tryd.func8 (by kernel_rfl)
    (of_decide_eq_true (by kernel_rfl)) (by unfold Func.isWrapper; first | (rw [if_pos (by decide +kernel)]; kernel_rfl) | (rw [if_neg (by decide +kernel)]; exact ⟨rfl, rfl⟩))
    (fun os started H enc _ => lifted8 os started H enc)

theorem natFilters_card : Rows.NatFiltersCardSaid :=
  Claim7.holds_tied_plain_at .later [] [.funcs] true (true, "d9d31fb8dbcb4dca77f16e6eba1af0d680b8feeef2c2c067e149d5f1543ab3eb") false
    holds8 (fun _ h => by cases h) (by kernel_rfl) (fun _ h => by cases h) natFilters_row_tie rfl ⟨rfl, rfl⟩ (by kernel_rfl) rfl
    (fun f fn hf hfn => by
      obtain rfl : f = 8 := Option.some.inj ((show Tryd.prog.funcNamed "tannoy/tannoylaw13.NatFilters" = some 8 by kernel_rfl).symm.trans hf) |>.symm
      obtain rfl : fn = Tryd.f8 := (Option.some.inj (Tryd.func8.symm.trans hfn)).symm
      exact ⟨by kernel_rfl, fun j t ht => by
        rw [Tryd.params8] at ht
        have hm : t ∈ [25, 35, 5, 5] := by simpa using Array.mem_of_getElem? ht
        have hall : ([25, 35, 5, 5].all fun u => !Tryd.prog.wantsStandIn u) = true := by kernel_rfl
        exact (show Tryd.prog.wantsStandIn t = false by simpa using List.all_eq_true.1 hall t hm)⟩)
    (by kernel_rfl)
end Go.Proofs.YtdiagiflihpidaaDoor
