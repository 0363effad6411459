/- tannoylaw11.AgentWires: the card. No conditions but the card's own. -/
import Derived.Test.YtjpahkpfkohfkaaGreatDoorW22
import Derived.Test.YtjpahkpfkohfkaaGreatDoorW23
import Derived.Test.YtjpahkpfkohfkaaGreatDoorCards
import Derived.Test.YtjpahkpfkohfkaaGreatDoorTie
import Derived.KernelRfl
set_option linter.unusedVariables false
set_option linter.unusedSimpArgs false
namespace Go.Proofs.YtjpahkpfkohfkaaGreatDoor
open Go Go.EV Go.ChangeShapes Go.WideShapes Go.ChangeAt Go.RowKit
set_option maxRecDepth 100000
theorem calls6 {w : World} (h : laidMetH Tryz.prog laid1 w) {v0 v1 v2 v3 v4 v5 : Value} {x0 : SProbe} {x1 : SDraft1} {x2 : SEvent} {x3 : ByteArray} {x4 : SEdit} {x5 : ByteArray} (hl : EventOk x2) (hx : EditOk x4)
  (r0 : Rep (gh0 w) w (ofL []) uTop (.agg (c50 x0)) v0) (r1 : Rep (gh0 w) w (ofL []) uTop (.agg (c25 x1)) v1) (r2 : Rep (gh0 w) w (ofL []) uTop (.agg (c57 x2)) v2) (r3 : Rep (gh0 w) w (ofL []) uTop (.str x3) v3) (r4 : Rep (gh0 w) w (ofL []) uTop (.agg (c68 x4)) v4) (r5 : Rep (gh0 w) w (ofL []) uTop (.str x5) v5) :
  Calls Tryz.prog 6 #[v0, v1, v2, v3, v4, v5] w fun e w' => e = .returned (.bool true) ∧ ∃ γ', Grow (gh0 w) w γ' w' := by
 have c : CallC Tryz.prog GG 6 [.agg (c50 x0), .agg (c25 x1), .agg (c57 x2), .str x3, .agg (c68 x4), .str x5] (ofL []) (.bool true) (ofL []) := (s6 x0 x1 x2 x3 x4 x5).ok true (SOk.eq (okWIRES x0 x1 x2 x3 x4 x5 hl hx))
 refine (c (gh0 w) w #[v0, v1, v2, v3, v4, v5] (globOk h) (fun B x hx => by simp [gh0] at hx) ⟨rfl, fun i c v hc hv => ?_⟩ (fun b k hb => by simp [ofL] at hb)).mono fun e w' hq => ?_
 ·match i, hc, hv with
  | 0, hc, hv => simp at hc hv; subst hc; subst hv; exact r0
  | 1, hc, hv => simp at hc hv; subst hc; subst hv; exact r1
  | 2, hc, hv => simp at hc hv; subst hc; subst hv; exact r2
  | 3, hc, hv => simp at hc hv; subst hc; subst hv; exact r3
  | 4, hc, hv => simp at hc hv; subst hc; subst hv; exact r4
  | 5, hc, hv => simp at hc hv; subst hc; subst hv; exact r5
  | n + 6, hc, hv => simp at hc
 ·obtain ⟨v, γ', rfl, hg, _, hr, _⟩ := hq
  have := hr.bool_inv
  subst this
  exact ⟨rfl, γ', hg⟩
noncomputable def zero6 : Array Value := #[.agg #[.int .i64 0, .int .i64 0, .int .i64 0, .bool false, .int .i64 0, .bool false, .string ByteArray.empty, .int .i64 0],
 .agg #[.slice none 0 0, .slice none 0 0, .bool false, .int .u8 0, .slice none 0 0],
 .agg #[.int .u8 0, .int .u8 0, .int .u8 0, .int .u8 0, .int .u16 0, .int .u8 0, .bool false, .bool false],
 .string ByteArray.empty,
 .agg #[.int .u8 0, .int .u8 0, .string ByteArray.empty],
 .string ByteArray.empty]
theorem lifted6 (os : Os) (started : os.Started) (H : Type) (enc : TypeId × Value → H) :
  ReturnsInHanded {} Tryz.checked os 6 .any (fun w args => (Rows.agentWiresSpec.pre enc Tryz.prog Tryz.f6 [] false w args ∧ laidMetH Tryz.prog laid1 w) ∧ sizedMet enc Tryz.prog Tryz.f6 (OpenSpec.ofChange Rows.agentWiresSpec) false w args)
   (Rows.agentWiresSpec.post enc Tryz.prog Tryz.f6 false true false false) := by
 refine returnsInHanded_of_change_and (C := Tryz.checked) (X := fun w _ => laidMetH Tryz.prog laid1 w) (fun _ _ _ hh h => h.of_heap hh) own started (by kernel_rfl) Tryz.func6
  (ChangeSpec.witness_shaped (enc := enc) (C := Tryz.checked) (os := os) (X := fun w _ => laidMetH Tryz.prog laid1 w) false (World.laidAll Tryz.prog os laid1) zero6 8 (World.laidAll_os _ _ _) (shaped1 os) (by kernel_rfl) (by kernel_rfl) (by kernel_rfl) (laid_met os _)) ?_
 intro W base args ds gs before hval0 hW _ _ hL _
 have hval : ∀ (j : Nat) t v, Tryz.f6.params[j]? = some t → args[j]? = some v → Value.okWide Tryz.prog W .any base t v := hval0
 have hW' := hW
 have hlt0 := DataW.Whole.lt hW
 obtain ⟨p, q, hA0, hV, rfl, hfz, hnd⟩ := hW
 have hA : DataW.TrodAll enc Tryz.prog W 0 (fun _ => true) true Tryz.f6.params.toList args.toList ds p := hA0
 rw [Tryz.params6] at hA hval
 obtain ⟨rfl, rfl⟩ := trodVars_none hV
 obtain ⟨v0, v1, v2, v3, v4, v5, d0, d1, d2, d3, d4, d5, p0, p1, p2, p3, p4, p5, rfl, rfl, rfl, h0, h1, h2, h3, h4, h5⟩ := trodAll_six hA
 obtain ⟨x0, i0, r0⟩ := open_agg rd50 (agg_struct u50 (hval 0 50 v0 rfl rfl)) h0
 obtain ⟨x1, i1, r1⟩ := open_agg rd25 (agg_struct u25 (hval 1 25 v1 rfl rfl)) h1
 obtain ⟨x2, i2, r2⟩ := open_agg rd57 (agg_struct u57 (hval 2 57 v2 rfl rfl)) h2
 obtain ⟨x3, i3, q3⟩ := open_one (rdStr u9) (str_one u9 (hval 3 9 v3 rfl rfl)) h3
 have r3 := q3 _ rfl
 obtain ⟨x4, i4, r4⟩ := open_agg rd68 (agg_struct u68 (hval 4 68 v4 rfl rfl)) h4
 obtain ⟨x5, i5, q5⟩ := open_one (rdStr u9) (str_one u9 (hval 5 9 v5 rfl rfl)) h5
 have r5 := q5 _ rfl
 refine (calls6 hL (event_of i2) (edit_of i4) r0 r1 r2 r3 r4 r5).mono fun e W' ⟨he, γ', hg⟩ => ?_
 subst he
 have hb := below_of_grow hg
 refine ⟨_, rfl, [d0, d1, d2, d3, d4, d5], [], _, [], (p0 ++ (p1 ++ (p2 ++ (p3 ++ (p4 ++ p5))))), [], hW', trodAll_mk1 (shut_bool u4 true), ?_, rfl, keptBut_of_grow hg _, fun h => by cases h⟩
 show DataW.TrodAll enc Tryz.prog W' 0 (fun b => decide (b < W.heap.size)) true Tryz.f6.params.toList [v0, v1, v2, v3, v4, v5] [d0, d1, d2, d3, d4, d5] _
 rw [Tryz.params6]
 exact trodAll_mk6
  (Below.trod laidOut (by kernel_rfl) (of_decide_eq_true (by kernel_rfl)) h0 hb (fun x hx => hlt0 x (by simp [hx])))
  (Below.trod laidOut (by kernel_rfl) (of_decide_eq_true (by kernel_rfl)) h1 hb (fun x hx => hlt0 x (by simp [hx])))
  (Below.trod laidOut (by kernel_rfl) (of_decide_eq_true (by kernel_rfl)) h2 hb (fun x hx => hlt0 x (by simp [hx])))
  (Below.trod laidOut (by kernel_rfl) (of_decide_eq_true (by kernel_rfl)) h3 hb (fun x hx => hlt0 x (by simp [hx])))
  (Below.trod laidOut (by kernel_rfl) (of_decide_eq_true (by kernel_rfl)) h4 hb (fun x hx => hlt0 x (by simp [hx])))
  (Below.trod laidOut (by kernel_rfl) (of_decide_eq_true (by kernel_rfl)) h5 hb (fun x hx => hlt0 x (by simp [hx])))
theorem holds6 : Rows.AgentWiresSaid :=
 OpenClaim.holds_of_wide 6 Tryz.f6 rfl rfl rfl rfl rfl rfl rfl ⟨rfl, rfl, rfl, rfl, rfl⟩ rfl rfl rfl rfl rfl (by kernel_rfl) Tryz.func6 facts6
  (of_decide_eq_true (by kernel_rfl)) (by unfold Func.isWrapper; first | (rw [if_pos (by decide +kernel)]; kernel_rfl) | (rw [if_neg (by decide +kernel)]; exact ⟨rfl, rfl⟩))
  (fun os started H enc _ => lifted6 os started H enc)
theorem agentWires_card : Rows.AgentWiresCardSaid :=
 Claim7.holds_tied_plain_at .later [] [.data, .data, .data, .data, .data, .pinned] true (true, "a7212c81ce44f5488502c002a9f4a73a1595631aff0b247cb2c3c74f1f06a219") true
  holds6 (fun _ h => by cases h) (by kernel_rfl) (fun _ h => by cases h) agentWires_row_tie rfl ⟨rfl, rfl⟩ (by kernel_rfl) rfl
  (fun f fn hf hfn => by
   obtain rfl : f = 6 := Option.some.inj ((show Tryz.prog.funcNamed "tannoy/tannoylaw11.AgentWires" = some 6 by kernel_rfl).symm.trans hf) |>.symm
   obtain rfl : fn = Tryz.f6 := (Option.some.inj (Tryz.func6.symm.trans hfn)).symm
   exact ⟨by kernel_rfl, fun j t ht => by
    rw [Tryz.params6] at ht
    have hm : t ∈ [50, 25, 57, 9, 68, 9] := by simpa using Array.mem_of_getElem? ht
    have hall : ([50, 25, 57, 9, 68, 9].all fun u => !Tryz.prog.wantsStandIn u) = true := by kernel_rfl
    exact (show Tryz.prog.wantsStandIn t = false by simpa using List.all_eq_true.1 hall t hm)⟩)
  (by kernel_rfl)
end Go.Proofs.YtjpahkpfkohfkaaGreatDoor
