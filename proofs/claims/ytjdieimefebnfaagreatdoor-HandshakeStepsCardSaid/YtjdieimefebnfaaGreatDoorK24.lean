/- tannoylaw20.HandshakeSteps: the card. No conditions but the card's own. -/
import Derived.Test.YtjdieimefebnfaaGreatDoorK22
import Derived.Test.YtjdieimefebnfaaGreatDoorK23
import Derived.Test.YtjdieimefebnfaaGreatDoorCards
import Derived.Test.YtjdieimefebnfaaGreatDoorTie
import Derived.KernelRfl
set_option linter.unusedVariables false
set_option linter.unusedSimpArgs false
namespace Go.Proofs.YtjdieimefebnfaaGreatDoor
open Go Go.EV Go.ChangeShapes Go.WideShapes Go.ChangeAt Go.RowKit
set_option maxHeartbeats 4000000
set_option maxRecDepth 100000
theorem vL {w : World} (h : laidMetH Tryz.prog Mb w) {v0 v1 v2 v3 v4 v5 : Value} {x0 : Zq} {x1 : Zx} {x2 : HC} {x3 : Za} {x4 : Qq} {x5 : Dd} (hu : UJ x0) (hs : 0 ≤ x1.1 ∧ x1.1 < 256) (hc : 0 ≤ x3.2 ∧ x3.2 < 256)
  (r0 : Qu (NT w) w (Qe []) Qk (.agg (c26 x0)) v0) (r1 : Qu (NT w) w (Qe []) Qk (.agg (c28 x1)) v1) (r2 : Qu (NT w) w (Qe []) Qk (.agg (c30 x2)) v2) (r3 : Qu (NT w) w (Qe []) Qk (.agg (c32 x3)) v3) (r4 : Qu (NT w) w (Qe []) Qk (.agg (c34 x4)) v4) (r5 : Qu (NT w) w (Qe []) Qk (.agg (c35 x5)) v5) :
  Calls Tryz.prog 3 #[v0, v1, v2, v3, v4, v5] w fun e w' => e = .returned (.bool true) ∧ ∃ γ', Qa (NT w) w γ' w' := by
 have c : QR Tryz.prog GG 3 [.agg (c26 x0), .agg (c28 x1), .agg (c30 x2), .agg (c32 x3), .agg (c34 x4), .agg (c35 x5)] (Qe []) (.bool true) (Qe []) := (s3 x0 x1 x2 x3 x4 x5).ok true (Qz.eq (xX x0 x1 x2 x3 x4 x5 hu hs hc))
 refine (c (NT w) w #[v0, v1, v2, v3, v4, v5] (cP h) (fun B x hx => by simp [NT] at hx) ⟨rfl, fun i c v hc hv => ?_⟩ (fun b k hb => by simp [Qe] at hb)).mono fun e w' hq => ?_
 ·match i, hc, hv with
  | 0, hc, hv => simp at hc hv; subst hc; subst hv; exact r0
  | 1, hc, hv => simp at hc hv; subst hc; subst hv; exact r1
  | 2, hc, hv => simp at hc hv; subst hc; subst hv; exact r2
  | 3, hc, hv => simp at hc hv; subst hc; subst hv; exact r3
  | 4, hc, hv => simp at hc hv; subst hc; subst hv; exact r4
  | 5, hc, hv => simp at hc hv; subst hc; subst hv; exact r5
  | n + 6, hc, hv => simp at hc
 ·obtain ⟨v, γ', rfl, hg, _, hr, _⟩ := hq
  have := hr.QF
  subst this
  exact ⟨rfl, γ', hg⟩
noncomputable def Qq3 : Array Value := #[.agg #[.int .u8 0, .int .u8 0, .int .u16 0, .int .u16 0, .int .u16 0, .int .u8 0, .int .u8 0],
 .agg #[.int .u8 0, .int .u8 0],
 .agg #[.int .u8 0, .int .u8 0, .int .i64 0, .string ByteArray.empty],
 .agg #[.int .u8 0, .int .u8 0, .int .u8 0, .int .i64 0],
 .agg #[.int .i64 0, .int .i64 0, .string ByteArray.empty],
 .agg #[.int .i64 0, .int .i64 0]]
theorem aV (os : Os) (started : os.Started) (H : Type) (enc : TypeId × Value → H) :
  ReturnsInHanded {} Tryz.checked os 3 .any (fun w args => (Rows.handshakeStepsSpec.pre enc Tryz.prog Tryz.f3 [] false w args ∧ laidMetH Tryz.prog Mb w) ∧ sizedMet enc Tryz.prog Tryz.f3 (OpenSpec.ofChange Rows.handshakeStepsSpec) false w args)
   (Rows.handshakeStepsSpec.post enc Tryz.prog Tryz.f3 false true false false) := by
 refine returnsInHanded_of_change_and (C := Tryz.checked) (X := fun w _ => laidMetH Tryz.prog Mb w) (fun _ _ _ hh h => h.of_heap hh) own started (by kernel_rfl) Tryz.func3
  (ChangeSpec.witness_shaped (enc := enc) (C := Tryz.checked) (os := os) (X := fun w _ => laidMetH Tryz.prog Mb w) false (World.laidAll Tryz.prog os Mb) Qq3 8 (World.laidAll_os _ _ _) (eL os) (by kernel_rfl) (by kernel_rfl) (by kernel_rfl) (jK os _)) ?_
 intro W base args ds gs before hval0 hW _ _ hL _
 have hval : ∀ (j : Nat) t v, Tryz.f3.params[j]? = some t → args[j]? = some v → Value.okWide Tryz.prog W .any base t v := hval0
 have hW' := hW
 have hlt0 := DataW.Whole.lt hW
 obtain ⟨p, q, hA0, hV, rfl, hfz, hnd⟩ := hW
 have hA : DataW.TrodAll enc Tryz.prog W 0 (fun _ => true) true Tryz.f3.params.toList args.toList ds p := hA0
 rw [Tryz.params3] at hA hval
 obtain ⟨rfl, rfl⟩ := trodVars_none hV
 obtain ⟨v0, v1, v2, v3, v4, v5, d0, d1, d2, d3, d4, d5, p0, p1, p2, p3, p4, p5, rfl, rfl, rfl, h0, h1, h2, h3, h4, h5⟩ := FO hA
 obtain ⟨x0, i0, r0⟩ := JW Qkd (YH u26 (hval 0 26 v0 rfl rfl)) h0
 obtain ⟨x1, i1, r1⟩ := JW Qke (YH u28 (hval 1 28 v1 rfl rfl)) h1
 obtain ⟨x2, i2, r2⟩ := JW Qkm (YH u30 (hval 2 30 v2 rfl rfl)) h2
 obtain ⟨x3, i3, r3⟩ := JW Qkk (YH u32 (hval 3 32 v3 rfl rfl)) h3
 obtain ⟨x4, i4, r4⟩ := JW Qkw (YH u34 (hval 4 34 v4 rfl rfl)) h4
 obtain ⟨x5, i5, r5⟩ := JW Qkh (Tf u35 (hval 5 35 v5 rfl rfl)) h5
 refine (vL hL (TB i0) (Cl i1) (Ta i3) r0 r1 r2 r3 r4 r5).mono fun e W' ⟨he, γ', hg⟩ => ?_
 subst he
 have hb := Is hg
 refine ⟨_, rfl, [d0, d1, d2, d3, d4, d5], [], _, [], (p0 ++ (p1 ++ (p2 ++ (p3 ++ (p4 ++ p5))))), [], hW', trodAll_mk1 (shut_bool u4 true), ?_, rfl, DQ hg _, fun h => by cases h⟩
 show DataW.TrodAll enc Tryz.prog W' 0 (fun b => decide (b < W.heap.size)) true Tryz.f3.params.toList [v0, v1, v2, v3, v4, v5] [d0, d1, d2, d3, d4, d5] _
 rw [Tryz.params3]
 exact FL
  (Below.trod laidOut (by kernel_rfl) (of_decide_eq_true (by kernel_rfl)) h0 hb (fun x hx => hlt0 x (by simp [hx])))
  (Below.trod laidOut (by kernel_rfl) (of_decide_eq_true (by kernel_rfl)) h1 hb (fun x hx => hlt0 x (by simp [hx])))
  (Below.trod laidOut (by kernel_rfl) (of_decide_eq_true (by kernel_rfl)) h2 hb (fun x hx => hlt0 x (by simp [hx])))
  (Below.trod laidOut (by kernel_rfl) (of_decide_eq_true (by kernel_rfl)) h3 hb (fun x hx => hlt0 x (by simp [hx])))
  (Below.trod laidOut (by kernel_rfl) (of_decide_eq_true (by kernel_rfl)) h4 hb (fun x hx => hlt0 x (by simp [hx])))
  (Below.trod laidOut (by kernel_rfl) (of_decide_eq_true (by kernel_rfl)) h5 hb (fun x hx => hlt0 x (by simp [hx])))
theorem cI : Rows.HandshakeStepsSaid :=
 OpenClaim.holds_of_wide 3 Tryz.f3 rfl rfl rfl rfl rfl rfl rfl ⟨rfl, rfl, rfl, rfl, rfl⟩ rfl rfl rfl rfl rfl (by kernel_rfl) Tryz.func3 vY
  (of_decide_eq_true (by kernel_rfl)) (by unfold Func.isWrapper; first | (rw [if_pos (by decide +kernel)]; kernel_rfl) | (rw [if_neg (by decide +kernel)]; exact ⟨rfl, rfl⟩))
  (fun os started H enc _ => aV os started H enc)
theorem handshakeSteps_card : Rows.HandshakeStepsCardSaid :=
 Claim7.holds_tied_plain_at .later [] [.data, .pinned] true (true, "481066415f6c6c2da205ca5fc6b9215c6847fcc9a7d3abc9176e6d654e29dc32") true
  cI (fun _ h => by cases h) (by kernel_rfl) (fun _ h => by cases h) handshakeSteps_row_tie rfl ⟨rfl, rfl⟩ (by kernel_rfl) rfl
  (fun f fn hf hfn => by
   obtain rfl : f = 3 := Option.some.inj ((show Tryz.prog.funcNamed "tannoy/tannoylaw20.HandshakeSteps" = some 3 by kernel_rfl).symm.trans hf) |>.symm
   obtain rfl : fn = Tryz.f3 := (Option.some.inj (Tryz.func3.symm.trans hfn)).symm
   exact ⟨by kernel_rfl, fun j t ht => by
    rw [Tryz.params3] at ht
    have hm : t ∈ [26, 28, 30, 32, 34, 35] := by simpa using Array.mem_of_getElem? ht
    have hall : ([26, 28, 30, 32, 34, 35].all fun u => !Tryz.prog.wantsStandIn u) = true := by kernel_rfl
    exact (show Tryz.prog.wantsStandIn t = false by simpa using List.all_eq_true.1 hall t hm)⟩)
  (by kernel_rfl)
end Go.Proofs.YtjdieimefebnfaaGreatDoor
