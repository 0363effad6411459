/- tannoylaw10.ChecklistMakes: the card. No conditions but the card's own. -/
import Derived.Test.YtioobnkmohikjaaGreatDoorM11
import Derived.Test.YtioobnkmohikjaaGreatDoorCards
import Derived.Test.YtioobnkmohikjaaGreatDoorTie
import Derived.KernelRfl
namespace Go.Proofs.YtioobnkmohikjaaGreatDoor
open Go Go.EV Go.ChangeShapes Go.WideShapes Go.ChangeAt Go.RowKit
set_option maxRecDepth 100000
theorem calls3 {w : World} (h : laidMetH Tryz.prog laid1 w) {v0 v1 v2 : Value} {x0 : SDraft1} {x1 : SBend} {x2 : Int} (hb : 0 ≤ x2 ∧ x2 ≤ 255)
  (r0 : Rep (gh0 w) w (ofL []) uTop (.agg (c25 x0)) v0) (r1 : Rep (gh0 w) w (ofL []) uTop (.agg (c29 x1)) v1) (r2 : Rep (gh0 w) w (ofL []) uTop (.int .u8 x2) v2) :
  Calls Tryz.prog 3 #[v0, v1, v2] w fun e w' => e = .returned (.bool true) ∧ ∃ γ', Grow (gh0 w) w γ' w' := by
 have c : CallC Tryz.prog GG 3 [.agg (c25 x0), .agg (c29 x1), .int .u8 x2] (ofL []) (.bool true) (ofL []) := (s3 x0 x1 x2).ok true (SOk.eq (okLMAKES x0 x1 x2 hb))
 refine (c (gh0 w) w #[v0, v1, v2] (globOk h) (fun B x hx => by simp [gh0] at hx) ⟨rfl, fun i c v hc hv => ?_⟩ (fun b k hb => by simp [ofL] at hb)).mono fun e w' hq => ?_
 ·match i, hc, hv with
  | 0, hc, hv => simp at hc hv; subst hc; subst hv; exact r0
  | 1, hc, hv => simp at hc hv; subst hc; subst hv; exact r1
  | 2, hc, hv => simp at hc hv; subst hc; subst hv; exact r2
  | n + 3, hc, hv => simp at hc
 ·obtain ⟨v, γ', rfl, hg, _, hr, _⟩ := hq
  have := hr.bool_inv
  subst this
  exact ⟨rfl, γ', hg⟩
noncomputable def zero3 : Array Value := #[.agg #[.slice none 0 0, .slice none 0 0, .bool false, .slice none 0 0],
 .agg #[.int .u8 0, .int .i64 0, .string ByteArray.empty, .string ByteArray.empty, .int .i64 0],
 .int .u8 0]
theorem lifted3 (os : Os) (started : os.Started) (H : Type) (enc : TypeId × Value → H) :
  ReturnsInHanded {} Tryz.checked os 3 .any (fun w args => (Rows.checklistMakesSpec.pre enc Tryz.prog Tryz.f3 [] false w args ∧ laidMetH Tryz.prog laid1 w) ∧ sizedMet enc Tryz.prog Tryz.f3 (OpenSpec.ofChange Rows.checklistMakesSpec) false w args)
   (Rows.checklistMakesSpec.post enc Tryz.prog Tryz.f3 false true false false) := by
 refine returnsInHanded_of_change_and (C := Tryz.checked) (X := fun w _ => laidMetH Tryz.prog laid1 w) (fun _ _ _ hh h => h.of_heap hh) own started (by kernel_rfl) Tryz.func3
  (ChangeSpec.witness_shaped (enc := enc) (C := Tryz.checked) (os := os) (X := fun w _ => laidMetH Tryz.prog laid1 w) false (World.laidAll Tryz.prog os laid1) zero3 8 (World.laidAll_os _ _ _) (shaped1 os) (by kernel_rfl) (by kernel_rfl) (by kernel_rfl) (laid_met os _)) ?_
 intro W base args ds gs before hval0 hW _ _ hL _
 have hval : ∀ (j : Nat) t v, Tryz.f3.params[j]? = some t → args[j]? = some v → Value.okWide Tryz.prog W .any base t v := hval0
 have hW' := hW
 have hlt0 := DataW.Whole.lt hW
 obtain ⟨p, q, hA0, hV, rfl, hfz, hnd⟩ := hW
 have hA : DataW.TrodAll enc Tryz.prog W 0 (fun _ => true) true Tryz.f3.params.toList args.toList ds p := hA0
 rw [Tryz.params3] at hA hval
 obtain ⟨rfl, rfl⟩ := trodVars_none hV
 obtain ⟨v0, v1, v2, d0, d1, d2, p0, p1, p2, rfl, rfl, rfl, h0, h1, h2⟩ := trodAll_three hA
 obtain ⟨x0, i0, r0⟩ := open_agg rd25 (agg_struct u25 (hval 0 25 v0 rfl rfl)) h0
 obtain ⟨x1, i1, r1⟩ := open_agg rd29 (agg_struct u29 (hval 1 29 v1 rfl rfl)) h1
 obtain ⟨x2, i2, q2⟩ := open_one (rdInt u5) (int_one u5 (hval 2 5 v2 rfl rfl)) h2
 have r2 := q2 _ rfl
 refine (calls3 hL (w8_iff i2) r0 r1 r2).mono fun e W' ⟨he, γ', hg⟩ => ?_
 subst he
 have hb := below_of_grow hg
 refine ⟨_, rfl, [d0, d1, d2], [], _, [], (p0 ++ (p1 ++ p2)), [], hW', trodAll_mk1 (shut_bool u4 true), ?_, rfl, keptBut_of_grow hg _, fun h => by cases h⟩
 show DataW.TrodAll enc Tryz.prog W' 0 (fun b => decide (b < W.heap.size)) true Tryz.f3.params.toList [v0, v1, v2] [d0, d1, d2] _
 rw [Tryz.params3]
 exact trodAll_mk3
  (Below.trod laidOut (by kernel_rfl) (of_decide_eq_true (by kernel_rfl)) h0 hb (fun x hx => hlt0 x (by simp [hx])))
  (Below.trod laidOut (by kernel_rfl) (of_decide_eq_true (by kernel_rfl)) h1 hb (fun x hx => hlt0 x (by simp [hx])))
  (Below.trod laidOut (by kernel_rfl) (of_decide_eq_true (by kernel_rfl)) h2 hb (fun x hx => hlt0 x (by simp [hx])))
theorem holds3 : Rows.ChecklistMakesSaid :=
 OpenClaim.holds_of_wide 3 Tryz.f3 rfl rfl rfl rfl rfl rfl rfl ⟨rfl, rfl, rfl, rfl, rfl⟩ rfl rfl rfl rfl rfl (by kernel_rfl) Tryz.func3 (by kernel_rfl)
  (of_decide_eq_true (by kernel_rfl)) (by unfold Func.isWrapper; first | (rw [if_pos (by decide +kernel)]; kernel_rfl) | (rw [if_neg (by decide +kernel)]; exact ⟨rfl, rfl⟩))
  (fun os started H enc _ => lifted3 os started H enc)
theorem checklistMakes_card : Rows.ChecklistMakesCardSaid :=
 Claim7.holds_tied_plain_at .later [] [.data, .data, .data, .data, .pinned] true (true, "da77e1865ae41b40c25bcb37cb32671b9f8664367b1765c519293e1f7c122044") false
  holds3 (fun _ h => by cases h) (by kernel_rfl) (fun _ h => by cases h) checklistMakes_row_tie rfl ⟨rfl, rfl⟩ (by kernel_rfl) rfl
  (fun f fn hf hfn => by
   obtain rfl : f = 3 := Option.some.inj ((show Tryz.prog.funcNamed "tannoy/tannoylaw10.ChecklistMakes" = some 3 by kernel_rfl).symm.trans hf) |>.symm
   obtain rfl : fn = Tryz.f3 := (Option.some.inj (Tryz.func3.symm.trans hfn)).symm
   exact ⟨by kernel_rfl, fun j t ht => by
    rw [Tryz.params3] at ht
    have hm : t ∈ [25, 29, 5] := by simpa using Array.mem_of_getElem? ht
    have hall : ([25, 29, 5].all fun u => !Tryz.prog.wantsStandIn u) = true := by kernel_rfl
    exact (show Tryz.prog.wantsStandIn t = false by simpa using List.all_eq_true.1 hall t hm)⟩)
  (by kernel_rfl)
end Go.Proofs.YtioobnkmohikjaaGreatDoor
