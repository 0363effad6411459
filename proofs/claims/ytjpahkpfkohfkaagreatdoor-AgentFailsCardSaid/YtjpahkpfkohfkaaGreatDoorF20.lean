/- tannoylaw11.AgentFails: the card. No conditions but the card's own. -/
import Derived.Test.YtjpahkpfkohfkaaGreatDoorF18
import Derived.Test.YtjpahkpfkohfkaaGreatDoorF19
import Derived.Test.YtjpahkpfkohfkaaGreatDoorCards
import Derived.Test.YtjpahkpfkohfkaaGreatDoorTie
import Derived.KernelRfl
set_option linter.unusedVariables false
set_option linter.unusedSimpArgs false
namespace Go.Proofs.YtjpahkpfkohfkaaGreatDoor
open Go Go.EV Go.ChangeShapes Go.WideShapes Go.ChangeAt Go.RowKit
set_option maxRecDepth 100000
theorem calls3 {w : World} (h : laidMetH Tryz.prog laid1 w) {v0 : Value} {x0 : SDraft1} (hd : DraftsOk x0)
  (r0 : Rep (gh0 w) w (ofL []) uTop (.agg (c25 x0)) v0) :
  Calls Tryz.prog 3 #[v0] w fun e w' => e = .returned (.bool true) ∧ ∃ γ', Grow (gh0 w) w γ' w' := by
 have c : CallC Tryz.prog GG 3 [.agg (c25 x0)] (ofL []) (.bool true) (ofL []) := (s3 x0).ok true (SOk.eq (okLFAILS x0 hd))
 refine (c (gh0 w) w #[v0] (globOk h) (fun B x hx => by simp [gh0] at hx) ⟨rfl, fun i c v hc hv => ?_⟩ (fun b k hb => by simp [ofL] at hb)).mono fun e w' hq => ?_
 ·match i, hc, hv with
  | 0, hc, hv => simp at hc hv; subst hc; subst hv; exact r0
  | n + 1, hc, hv => simp at hc
 ·obtain ⟨v, γ', rfl, hg, _, hr, _⟩ := hq
  have := hr.bool_inv
  subst this
  exact ⟨rfl, γ', hg⟩
noncomputable def zero3 : Array Value := #[.agg #[.slice none 0 0, .slice none 0 0, .bool false, .int .u8 0, .slice none 0 0]]
theorem lifted3 (os : Os) (started : os.Started) (H : Type) (enc : TypeId × Value → H) :
  ReturnsInHanded {} Tryz.checked os 3 .any (fun w args => (Rows.agentFailsSpec.pre enc Tryz.prog Tryz.f3 [] false w args ∧ laidMetH Tryz.prog laid1 w) ∧ sizedMet enc Tryz.prog Tryz.f3 (OpenSpec.ofChange Rows.agentFailsSpec) false w args)
   (Rows.agentFailsSpec.post enc Tryz.prog Tryz.f3 false true false false) := by
 refine returnsInHanded_of_change_and (C := Tryz.checked) (X := fun w _ => laidMetH Tryz.prog laid1 w) (fun _ _ _ hh h => h.of_heap hh) own started (by kernel_rfl) Tryz.func3
  (ChangeSpec.witness_shaped (enc := enc) (C := Tryz.checked) (os := os) (X := fun w _ => laidMetH Tryz.prog laid1 w) false (World.laidAll Tryz.prog os laid1) zero3 8 (World.laidAll_os _ _ _) (shaped1 os) (by kernel_rfl) (by kernel_rfl) (by kernel_rfl) (laid_met os _)) ?_
 intro W base args ds gs before hval0 hW _ _ hL _
 have hval : ∀ (j : Nat) t v, Tryz.f3.params[j]? = some t → args[j]? = some v → Value.okWide Tryz.prog W .any base t v := hval0
 have hW' := hW
 have hlt0 := DataW.Whole.lt hW
 obtain ⟨p, q, hA0, hV, rfl, hfz, hnd⟩ := hW
 have hA : DataW.TrodAll enc Tryz.prog W 0 (fun _ => true) true Tryz.f3.params.toList args.toList ds p := hA0
 rw [Tryz.params3] at hA hval
 obtain ⟨rfl, rfl⟩ := trodVars_none hV
 obtain ⟨v0, d0, rfl, rfl, h0⟩ := trodAll_one hA
 obtain ⟨x0, i0, r0⟩ := open_agg rd25 (agg_struct u25 (hval 0 25 v0 rfl rfl)) h0
 refine (calls3 hL (drafts_of i0) r0).mono fun e W' ⟨he, γ', hg⟩ => ?_
 subst he
 have hb := below_of_grow hg
 refine ⟨_, rfl, [d0], [], _, [], p, [], hW', trodAll_mk1 (shut_bool u4 true), ?_, rfl, keptBut_of_grow hg _, fun h => by cases h⟩
 show DataW.TrodAll enc Tryz.prog W' 0 (fun b => decide (b < W.heap.size)) true Tryz.f3.params.toList [v0] [d0] _
 rw [Tryz.params3]
 exact trodAll_mk1
  (Below.trod laidOut (by kernel_rfl) (of_decide_eq_true (by kernel_rfl)) h0 hb (fun x hx => hlt0 x (by simp [hx])))
theorem holds3 : Rows.AgentFailsSaid :=
 OpenClaim.holds_of_wide 3 Tryz.f3 rfl rfl rfl rfl rfl rfl rfl ⟨rfl, rfl, rfl, rfl, rfl⟩ rfl rfl rfl rfl rfl (by kernel_rfl) Tryz.func3 facts3
  (of_decide_eq_true (by kernel_rfl)) (by unfold Func.isWrapper; first | (rw [if_pos (by decide +kernel)]; kernel_rfl) | (rw [if_neg (by decide +kernel)]; exact ⟨rfl, rfl⟩))
  (fun os started H enc _ => lifted3 os started H enc)
theorem agentFails_card : Rows.AgentFailsCardSaid :=
 Claim7.holds_tied_plain_at .later [] [.data, .data, .data, .data, .data, .pinned] true (true, "a7212c81ce44f5488502c002a9f4a73a1595631aff0b247cb2c3c74f1f06a219") true
  holds3 (fun _ h => by cases h) (by kernel_rfl) (fun _ h => by cases h) agentFails_row_tie rfl ⟨rfl, rfl⟩ (by kernel_rfl) rfl
  (fun f fn hf hfn => by
   obtain rfl : f = 3 := Option.some.inj ((show Tryz.prog.funcNamed "tannoy/tannoylaw11.AgentFails" = some 3 by kernel_rfl).symm.trans hf) |>.symm
   obtain rfl : fn = Tryz.f3 := (Option.some.inj (Tryz.func3.symm.trans hfn)).symm
   exact ⟨by kernel_rfl, fun j t ht => by
    rw [Tryz.params3] at ht
    have hm : t ∈ [25] := by simpa using Array.mem_of_getElem? ht
    have hall : ([25].all fun u => !Tryz.prog.wantsStandIn u) = true := by kernel_rfl
    exact (show Tryz.prog.wantsStandIn t = false by simpa using List.all_eq_true.1 hall t hm)⟩)
  (by kernel_rfl)
end Go.Proofs.YtjpahkpfkohfkaaGreatDoor
