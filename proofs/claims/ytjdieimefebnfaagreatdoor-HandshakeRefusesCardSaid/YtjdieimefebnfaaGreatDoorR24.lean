/- tannoylaw20.HandshakeRefuses: the card. No conditions but the card's own. -/
import Derived.Test.YtjdieimefebnfaaGreatDoorR22
import Derived.Test.YtjdieimefebnfaaGreatDoorR23
import Derived.Test.YtjdieimefebnfaaGreatDoorCards
import Derived.Test.YtjdieimefebnfaaGreatDoorTie
import Derived.KernelRfl
set_option linter.unusedVariables false
set_option linter.unusedSimpArgs false
namespace Go.Proofs.YtjdieimefebnfaaGreatDoor
open Go Go.EV Go.ChangeShapes Go.WideShapes Go.ChangeAt Go.RowKit
set_option maxHeartbeats 4000000
set_option maxRecDepth 100000
theorem Qjt {w : World} (h : laidMetH Tryz.prog Ey w) {v0 : Value} {x0 : Zq} (hd : Py x0)
  (r0 : Qz (mT w) w (Qm []) Qw (.agg (c26 x0)) v0) :
  Calls Tryz.prog 4 #[v0] w fun e w' => e = .returned (.bool true) ∧ ∃ γ', Qe (mT w) w γ' w' := by
 have c : QR Tryz.prog GG 4 [.agg (c26 x0)] (Qm []) (.bool true) (Qm []) := (s4 x0).ok true (Qy.eq (Qw5 x0 hd))
 refine (c (mT w) w #[v0] (Qye h) (fun B x hx => by simp [mT] at hx) ⟨rfl, fun i c v hc hv => ?_⟩ (fun b k hb => by simp [Qm] at hb)).mono fun e w' hq => ?_
 ·match i, hc, hv with
  | 0, hc, hv => simp at hc hv; subst hc; subst hv; exact r0
  | n + 1, hc, hv => simp at hc
 ·obtain ⟨v, γ', rfl, hg, _, hr, _⟩ := hq
  have := hr.QF
  subst this
  exact ⟨rfl, γ', hg⟩
noncomputable def Quh : Array Value := #[.agg #[.int .u8 0, .int .u8 0, .int .u16 0, .int .u16 0, .int .u16 0, .int .u8 0, .int .u8 0]]
theorem nI (os : Os) (started : os.Started) (H : Type) (enc : TypeId × Value → H) :
  ReturnsInHanded {} Tryz.checked os 4 .any (fun w args => (Rows.handshakeRefusesSpec.pre enc Tryz.prog Tryz.f4 [] false w args ∧ laidMetH Tryz.prog Ey w) ∧ sizedMet enc Tryz.prog Tryz.f4 (OpenSpec.ofChange Rows.handshakeRefusesSpec) false w args)
   (Rows.handshakeRefusesSpec.post enc Tryz.prog Tryz.f4 false true false false) := by
 refine returnsInHanded_of_change_and (C := Tryz.checked) (X := fun w _ => laidMetH Tryz.prog Ey w) (fun _ _ _ hh h => h.of_heap hh) own started (by kernel_rfl) Tryz.func4
  (ChangeSpec.witness_shaped (enc := enc) (C := Tryz.checked) (os := os) (X := fun w _ => laidMetH Tryz.prog Ey w) false (World.laidAll Tryz.prog os Ey) Quh 8 (World.laidAll_os _ _ _) (oK os) (by kernel_rfl) (by kernel_rfl) (by kernel_rfl) (mI os _)) ?_
 intro W base args ds gs before hval0 hW _ _ hL _
 have hval : ∀ (j : Nat) t v, Tryz.f4.params[j]? = some t → args[j]? = some v → Value.okWide Tryz.prog W .any base t v := hval0
 have hW' := hW
 have hlt0 := DataW.Whole.lt hW
 obtain ⟨p, q, hA0, hV, rfl, hfz, hnd⟩ := hW
 have hA : DataW.TrodAll enc Tryz.prog W 0 (fun _ => true) true Tryz.f4.params.toList args.toList ds p := hA0
 rw [Tryz.params4] at hA hval
 obtain ⟨rfl, rfl⟩ := trodVars_none hV
 obtain ⟨v0, d0, rfl, rfl, h0⟩ := trodAll_one hA
 obtain ⟨x0, i0, r0⟩ := uS Qxd (BZ u26 (hval 0 26 v0 rfl rfl)) h0
 refine (Qjt hL (Qjf i0) r0).mono fun e W' ⟨he, γ', hg⟩ => ?_
 subst he
 have hb := Ol hg
 refine ⟨_, rfl, [d0], [], _, [], p, [], hW', trodAll_mk1 (shut_bool u4 true), ?_, rfl, Xk hg _, fun h => by cases h⟩
 show DataW.TrodAll enc Tryz.prog W' 0 (fun b => decide (b < W.heap.size)) true Tryz.f4.params.toList [v0] [d0] _
 rw [Tryz.params4]
 exact trodAll_mk1
  (Below.trod laidOut (by kernel_rfl) (of_decide_eq_true (by kernel_rfl)) h0 hb (fun x hx => hlt0 x (by simp [hx])))
theorem Qy9 : Rows.HandshakeRefusesSaid :=
 OpenClaim.holds_of_wide 4 Tryz.f4 rfl rfl rfl rfl rfl rfl rfl ⟨rfl, rfl, rfl, rfl, rfl⟩ rfl rfl rfl rfl rfl (by kernel_rfl) Tryz.func4 Qjh
  (of_decide_eq_true (by kernel_rfl)) (by unfold Func.isWrapper; first | (rw [if_pos (by decide +kernel)]; kernel_rfl) | (rw [if_neg (by decide +kernel)]; exact ⟨rfl, rfl⟩))
  (fun os started H enc _ => nI os started H enc)
theorem handshakeRefuses_card : Rows.HandshakeRefusesCardSaid :=
 Claim7.holds_tied_plain_at .later [] [.data, .pinned] true (true, "481066415f6c6c2da205ca5fc6b9215c6847fcc9a7d3abc9176e6d654e29dc32") true
  Qy9 (fun _ h => by cases h) (by kernel_rfl) (fun _ h => by cases h) handshakeRefuses_row_tie rfl ⟨rfl, rfl⟩ (by kernel_rfl) rfl
  (fun f fn hf hfn => by
   obtain rfl : f = 4 := Option.some.inj ((show Tryz.prog.funcNamed "tannoy/tannoylaw20.HandshakeRefuses" = some 4 by kernel_rfl).symm.trans hf) |>.symm
   obtain rfl : fn = Tryz.f4 := (Option.some.inj (Tryz.func4.symm.trans hfn)).symm
   exact ⟨by kernel_rfl, fun j t ht => by
    rw [Tryz.params4] at ht
    have hm : t ∈ [26] := by simpa using Array.mem_of_getElem? ht
    have hall : ([26].all fun u => !Tryz.prog.wantsStandIn u) = true := by kernel_rfl
    exact (show Tryz.prog.wantsStandIn t = false by simpa using List.all_eq_true.1 hall t hm)⟩)
  (by kernel_rfl)
end Go.Proofs.YtjdieimefebnfaaGreatDoor
