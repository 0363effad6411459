/- tannoylaw10.ChecklistSets: the card. No conditions but the card's own. -/
import Derived.Test.YtioobnkmohikjaaGreatDoorY10
import Derived.Test.YtioobnkmohikjaaGreatDoorCards
import Derived.Test.YtioobnkmohikjaaGreatDoorTie
import Derived.KernelRfl
namespace Go.Proofs.YtioobnkmohikjaaGreatDoor
open Go Go.EV Go.ChangeShapes Go.WideShapes Go.ChangeAt Go.RowKit
set_option maxRecDepth 100000
theorem calls5 {w : World} (h : laidMetH Tryz.prog laid1 w) {v0 v1 v2 v3 v4 v5 : Value} {x0 : SDraft1} {x1 : S2Tannoyref10Bend} {x2 : SList} {x3 : Int} {x4 : Int} {x5 : S2Uint8} (hb : BendsOk x1)
  (r0 : Rep (gh0 w) w (ofL []) uTop (.agg (c25 x0)) v0) (r1 : Rep (gh0 w) w (ofL []) uTop (.agg (c49 x1)) v1) (r2 : Rep (gh0 w) w (ofL []) uTop (.agg (c41 x2)) v2) (r3 : Rep (gh0 w) w (ofL []) uTop (.int .i64 x3) v3) (r4 : Rep (gh0 w) w (ofL []) uTop (.int .i64 x4) v4) (r5 : Rep (gh0 w) w (ofL []) uTop (.agg (c60 x5)) v5) :
  Calls Tryz.prog 5 #[v0, v1, v2, v3, v4, v5] w fun e w' => e = .returned (.bool true) ∧ ∃ γ', Grow (gh0 w) w γ' w' := by
 have c : CallC Tryz.prog GG 5 [.agg (c25 x0), .agg (c49 x1), .agg (c41 x2), .int .i64 x3, .int .i64 x4, .agg (c60 x5)] (ofL []) (.bool true) (ofL []) := (s5 x0 x1 x2 x3 x4 x5).ok true (SOk.eq (okLSETS x0 x1 x2 x3 x4 x5 hb.1 hb.2))
 refine (c (gh0 w) w #[v0, v1, v2, v3, v4, v5] (globOk h) (fun B x hx => by simp [gh0] at hx) ⟨rfl, fun i c v hc hv => ?_⟩ (fun b k hb => by simp [ofL] at hb)).mono fun e w' hq => ?_
 ·match i, hc, hv with
  | 0, hc, hv => simp at hc hv; subst hc; subst hv; exact r0
  | 1, hc, hv => simp at hc hv; subst hc; subst hv; exact r1
  | 2, hc, hv => simp at hc hv; subst hc; subst hv; exact r2
  | 3, hc, hv => simp at hc hv; subst hc; subst hv; exact r3
  | 4, hc, hv => simp at hc hv; subst hc; subst hv; exact r4
  | 5, hc, hv => simp at hc hv; subst hc; subst hv; exact r5
  | n + 6, hc, hv => simp at hc
 ·obtain ⟨v, γ', rfl, hg, _, hr, _⟩ := hq
  have := hr.bool_inv
  subst this
  exact ⟨rfl, γ', hg⟩
noncomputable def zero5 : Array Value := #[.agg #[.slice none 0 0, .slice none 0 0, .bool false, .slice none 0 0],
 .agg #[.int .u8 0, .int .u8 0, .int .i64 0, .int .u8 0, .int .i64 0, .string ByteArray.empty, .string ByteArray.empty, .int .i64 0, .int .u8 0, .int .u8 0, .int .i64 0, .int .u8 0, .int .i64 0, .string ByteArray.empty, .string ByteArray.empty, .int .i64 0],
 .agg #[.bool false, .slice none 0 0, .slice none 0 0, .slice none 0 0],
 .int .i64 0,
 .int .i64 0,
 .agg #[.int .u8 0, .int .u8 0]]
theorem lifted5 (os : Os) (started : os.Started) (H : Type) (enc : TypeId × Value → H) :
  ReturnsInHanded {} Tryz.checked os 5 .any (fun w args => (Rows.checklistSetsSpec.pre enc Tryz.prog Tryz.f5 [] false w args ∧ laidMetH Tryz.prog laid1 w) ∧ sizedMet enc Tryz.prog Tryz.f5 (OpenSpec.ofChange Rows.checklistSetsSpec) false w args)
   (Rows.checklistSetsSpec.post enc Tryz.prog Tryz.f5 false true false false) := by
 refine returnsInHanded_of_change_and (C := Tryz.checked) (X := fun w _ => laidMetH Tryz.prog laid1 w) (fun _ _ _ hh h => h.of_heap hh) own started (by kernel_rfl) Tryz.func5
  (ChangeSpec.witness_shaped (enc := enc) (C := Tryz.checked) (os := os) (X := fun w _ => laidMetH Tryz.prog laid1 w) false (World.laidAll Tryz.prog os laid1) zero5 8 (World.laidAll_os _ _ _) (shaped1 os) (by kernel_rfl) (by kernel_rfl) (by kernel_rfl) (laid_met os _)) ?_
 intro W base args ds gs before hval0 hW _ _ hL _
 have hval : ∀ (j : Nat) t v, Tryz.f5.params[j]? = some t → args[j]? = some v → Value.okWide Tryz.prog W .any base t v := hval0
 have hW' := hW
 have hlt0 := DataW.Whole.lt hW
 obtain ⟨p, q, hA0, hV, rfl, hfz, hnd⟩ := hW
 have hA : DataW.TrodAll enc Tryz.prog W 0 (fun _ => true) true Tryz.f5.params.toList args.toList ds p := hA0
 rw [Tryz.params5] at hA hval
 obtain ⟨rfl, rfl⟩ := trodVars_none hV
 obtain ⟨v0, v1, v2, v3, v4, v5, d0, d1, d2, d3, d4, d5, p0, p1, p2, p3, p4, p5, rfl, rfl, rfl, h0, h1, h2, h3, h4, h5⟩ := trodAll_six hA
 obtain ⟨x0, i0, r0⟩ := open_agg rd25 (agg_struct u25 (hval 0 25 v0 rfl rfl)) h0
 obtain ⟨x1, i1, r1⟩ := open_agg rd49 (agg_array u49 (hval 1 49 v1 rfl rfl)) h1
 obtain ⟨x2, i2, r2⟩ := open_agg rd41 (agg_struct u41 (hval 2 41 v2 rfl rfl)) h2
 obtain ⟨x3, i3, q3⟩ := open_one (rdInt u3) (int_one u3 (hval 3 3 v3 rfl rfl)) h3
 have r3 := q3 _ rfl
 obtain ⟨x4, i4, q4⟩ := open_one (rdInt u3) (int_one u3 (hval 4 3 v4 rfl rfl)) h4
 have r4 := q4 _ rfl
 obtain ⟨x5, i5, r5⟩ := open_agg rd60 (agg_array u60 (hval 5 60 v5 rfl rfl)) h5
 refine (calls5 hL (bends_of i1) r0 r1 r2 r3 r4 r5).mono fun e W' ⟨he, γ', hg⟩ => ?_
 subst he
 have hb := below_of_grow hg
 refine ⟨_, rfl, [d0, d1, d2, d3, d4, d5], [], _, [], (p0 ++ (p1 ++ (p2 ++ (p3 ++ (p4 ++ p5))))), [], hW', trodAll_mk1 (shut_bool u4 true), ?_, rfl, keptBut_of_grow hg _, fun h => by cases h⟩
 show DataW.TrodAll enc Tryz.prog W' 0 (fun b => decide (b < W.heap.size)) true Tryz.f5.params.toList [v0, v1, v2, v3, v4, v5] [d0, d1, d2, d3, d4, d5] _
 rw [Tryz.params5]
 exact trodAll_mk6
  (Below.trod laidOut (by kernel_rfl) (of_decide_eq_true (by kernel_rfl)) h0 hb (fun x hx => hlt0 x (by simp [hx])))
  (Below.trod laidOut (by kernel_rfl) (of_decide_eq_true (by kernel_rfl)) h1 hb (fun x hx => hlt0 x (by simp [hx])))
  (Below.trod laidOut (by kernel_rfl) (of_decide_eq_true (by kernel_rfl)) h2 hb (fun x hx => hlt0 x (by simp [hx])))
  (Below.trod laidOut (by kernel_rfl) (of_decide_eq_true (by kernel_rfl)) h3 hb (fun x hx => hlt0 x (by simp [hx])))
  (Below.trod laidOut (by kernel_rfl) (of_decide_eq_true (by kernel_rfl)) h4 hb (fun x hx => hlt0 x (by simp [hx])))
  (Below.trod laidOut (by kernel_rfl) (of_decide_eq_true (by kernel_rfl)) h5 hb (fun x hx => hlt0 x (by simp [hx])))
theorem holds5 : Rows.ChecklistSetsSaid :=
 OpenClaim.holds_of_wide 5 Tryz.f5 rfl rfl rfl rfl rfl rfl rfl ⟨rfl, rfl, rfl, rfl, rfl⟩ rfl rfl rfl rfl rfl (by kernel_rfl) Tryz.func5 (by kernel_rfl)
  (of_decide_eq_true (by kernel_rfl)) (by unfold Func.isWrapper; first | (rw [if_pos (by decide +kernel)]; kernel_rfl) | (rw [if_neg (by decide +kernel)]; exact ⟨rfl, rfl⟩))
  (fun os started H enc _ => lifted5 os started H enc)
theorem checklistSets_card : Rows.ChecklistSetsCardSaid :=
 Claim7.holds_tied_plain_at .later [] [.data, .data, .data, .data, .pinned] true (true, "da77e1865ae41b40c25bcb37cb32671b9f8664367b1765c519293e1f7c122044") false
  holds5 (fun _ h => by cases h) (by kernel_rfl) (fun _ h => by cases h) checklistSets_row_tie rfl ⟨rfl, rfl⟩ (by kernel_rfl) rfl
  (fun f fn hf hfn => by
   obtain rfl : f = 5 := Option.some.inj ((show Tryz.prog.funcNamed "tannoy/tannoylaw10.ChecklistSets" = some 5 by kernel_rfl).symm.trans hf) |>.symm
   obtain rfl : fn = Tryz.f5 := (Option.some.inj (Tryz.func5.symm.trans hfn)).symm
   exact ⟨by kernel_rfl, fun j t ht => by
    rw [Tryz.params5] at ht
    have hm : t ∈ [25, 49, 41, 3, 3, 60] := by simpa using Array.mem_of_getElem? ht
    have hall : ([25, 49, 41, 3, 3, 60].all fun u => !Tryz.prog.wantsStandIn u) = true := by kernel_rfl
    exact (show Tryz.prog.wantsStandIn t = false by simpa using List.all_eq_true.1 hall t hm)⟩)
  (by kernel_rfl)
end Go.Proofs.YtioobnkmohikjaaGreatDoor
