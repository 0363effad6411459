/- tannoylaw20.HandshakeTampers: the card. No conditions but the card's own. -/
import Derived.Test.YtjdieimefebnfaaGreatDoorX19
import Derived.Test.YtjdieimefebnfaaGreatDoorCards
set_option linter.all false
set_option maxHeartbeats 4000000
namespace Go.Proofs.YtjdieimefebnfaaGreatDoor
open Go Go.EV Go.ChangeShapes Go.WideShapes Go.ChangeAt Go.RowKit
set_option maxRecDepth 100000
theorem Qu0 {w : World} (h : laidMetH Tryz.prog Ek w) {v0 v1 v2 v3 : Value} {x0 : QM} {x1 : Int} {x2 : Int} {x3 : Int} (hd : Xy x0) (ha : 0 ≤ x2 ∧ x2 < 256)
  (r0 : Qz (Bk w) w (Qm []) Qw (.agg (c26 x0)) v0) (r1 : Qz (Bk w) w (Qm []) Qw (.int .u8 x1) v1) (r2 : Qz (Bk w) w (Qm []) Qw (.int .u8 x2) v2) (r3 : Qz (Bk w) w (Qm []) Qw (.int .u8 x3) v3) :
  Calls Tryz.prog 5 #[v0, v1, v2, v3] w fun e w' => e = .returned (.bool true) ∧ ∃ γ', Qe (Bk w) w γ' w' := by
 have c : QR Tryz.prog GG 5 [.agg (c26 x0), .int .u8 x1, .int .u8 x2, .int .u8 x3] (Qm []) (.bool true) (Qm []) := (s5 x0 x1 x2 x3).ok true (Qy.eq (Qqt x0 x1 x2 x3 hd ha));refine (c (Bk w) w #[v0, v1, v2, v3] (Qyi h) (fun B x hx => by simp [Bk] at hx) ⟨rfl, fun i c v hc hv => ?_⟩ (fun b k hb => by simp [Qm] at hb)).mono fun e w' hq => ?_
 ·match i, hc, hv with
  | 0, hc, hv => simp at hc hv; subst hc; subst hv; exact r0
  | 1, hc, hv => simp at hc hv; subst hc; subst hv; exact r1
  | 2, hc, hv => simp at hc hv; subst hc; subst hv; exact r2
  | 3, hc, hv => simp at hc hv; subst hc; subst hv; exact r3
  | n + 4, hc, hv => simp at hc
 ·obtain ⟨v, γ', rfl, hg, _, hr, _⟩ := hq;have := hr.QF;subst this;exact ⟨rfl, γ', hg⟩
noncomputable def Qum : Array Value := #[.agg #[.int .u8 0, .int .u8 0, .int .u16 0, .int .u16 0, .int .u16 0, .int .u8 0, .int .u8 0],
 .int .u8 0,
 .int .u8 0,
 .int .u8 0]
theorem nO (os : Os) (started : os.Started) (H : Type) (enc : TypeId × Value → H) :
  ReturnsInHanded {} Tryz.checked os 5 .any (fun w args => (Rows.handshakeTampersSpec.pre enc Tryz.prog Tryz.f5 [] false w args ∧ laidMetH Tryz.prog Ek w) ∧ sizedMet enc Tryz.prog Tryz.f5 (OpenSpec.ofChange Rows.handshakeTampersSpec) false w args)
   (Rows.handshakeTampersSpec.post enc Tryz.prog Tryz.f5 false true false false) := by
 refine returnsInHanded_of_change_and (C := Tryz.checked) (X := fun w _ => laidMetH Tryz.prog Ek w) (fun _ _ _ hh h => h.of_heap hh) own started (by kernel_rfl) Tryz.func5
  (ChangeSpec.witness_shaped (enc := enc) (C := Tryz.checked) (os := os) (X := fun w _ => laidMetH Tryz.prog Ek w) false (World.laidAll Tryz.prog os Ek) Qum 8 (World.laidAll_os _ _ _) (oI os) (by kernel_rfl) (by kernel_rfl) (by kernel_rfl) (mB os _)) ?_
 intro W base args ds gs before hval0 hW _ _ hL _;have hval : ∀ (j : Nat) t v, Tryz.f5.params[j]? = some t → args[j]? = some v → Value.okWide Tryz.prog W .any base t v := hval0;have hW' := hW;have hlt0 := DataW.Whole.lt hW;obtain ⟨p, q, hA0, hV, rfl, hfz, hnd⟩ := hW;have hA : DataW.TrodAll enc Tryz.prog W 0 (fun _ => true) true Tryz.f5.params.toList args.toList ds p := hA0;rw [Tryz.params5] at hA hval;obtain ⟨rfl, rfl⟩ := trodVars_none hV;obtain ⟨v0, v1, v2, v3, d0, d1, d2, d3, p0, p1, p2, p3, rfl, rfl, rfl, h0, h1, h2, h3⟩ := trodAll_four hA;obtain ⟨x0, i0, r0⟩ := hP Qdf (BX u26 (hval 0 26 v0 rfl rfl)) h0;obtain ⟨x1, i1, q1⟩ := AW (DA u5) (Gw u5 (hval 1 5 v1 rfl rfl)) h1;have r1 := q1 _ rfl;obtain ⟨x2, i2, q2⟩ := AW (DA u5) (Gw u5 (hval 2 5 v2 rfl rfl)) h2;have r2 := q2 _ rfl;obtain ⟨x3, i3, q3⟩ := AW (DA u5) (Gw u5 (hval 3 5 v3 rfl rfl)) h3;have r3 := q3 _ rfl;refine (Qu0 hL (Qjf i0) ⟨(LN i2).1, Int.lt_add_one_of_le (LN i2).2⟩ r0 r1 r2 r3).mono fun e W' ⟨he, γ', hg⟩ => ?_;subst he;have hb := OK hg;refine ⟨_, rfl, [d0, d1, d2, d3], [], _, [], (p0 ++ (p1 ++ (p2 ++ p3))), [], hW', trodAll_mk1 (shut_bool u4 true), ?_, rfl, Xo hg _, fun h => by cases h⟩;show DataW.TrodAll enc Tryz.prog W' 0 (fun b => decide (b < W.heap.size)) true Tryz.f5.params.toList [v0, v1, v2, v3] [d0, d1, d2, d3] _;rw [Tryz.params5];exact trodAll_mk4
  (Below.trod laidOut (by kernel_rfl) (of_decide_eq_true (by kernel_rfl)) h0 hb (fun x hx => hlt0 x (by simp [hx])))
  (Below.trod laidOut (by kernel_rfl) (of_decide_eq_true (by kernel_rfl)) h1 hb (fun x hx => hlt0 x (by simp [hx])))
  (Below.trod laidOut (by kernel_rfl) (of_decide_eq_true (by kernel_rfl)) h2 hb (fun x hx => hlt0 x (by simp [hx])))
  (Below.trod laidOut (by kernel_rfl) (of_decide_eq_true (by kernel_rfl)) h3 hb (fun x hx => hlt0 x (by simp [hx])))
theorem Qyu : Rows.HandshakeTampersSaid :=
 OpenClaim.holds_of_wide 5 Tryz.f5 rfl rfl rfl rfl rfl rfl rfl ⟨rfl, rfl, rfl, rfl, rfl⟩ rfl rfl rfl rfl rfl (by kernel_rfl) Tryz.func5 Qje
  (of_decide_eq_true (by kernel_rfl)) (by unfold Func.isWrapper; first | (rw [if_pos (by decide +kernel)]; kernel_rfl) | (rw [if_neg (by decide +kernel)]; exact ⟨rfl, rfl⟩))
  (fun os started H enc _ => nO os started H enc)
theorem handshakeTampers_card : Rows.HandshakeTampersCardSaid :=
 Claim7.holds_tied_plain_at .later [] [.data, .pinned] true (true, "481066415f6c6c2da205ca5fc6b9215c6847fcc9a7d3abc9176e6d654e29dc32") true
  Qyu (fun _ h => by cases h) (by kernel_rfl) (fun _ h => by cases h) handshakeTampers_row_tie rfl ⟨rfl, rfl⟩ (by kernel_rfl) rfl
  (fun f fn hf hfn => by
   obtain rfl : f = 5 := Option.some.inj ((show Tryz.prog.funcNamed "tannoy/tannoylaw20.HandshakeTampers" = some 5 by kernel_rfl).symm.trans hf) |>.symm;obtain rfl : fn = Tryz.f5 := (Option.some.inj (Tryz.func5.symm.trans hfn)).symm;exact ⟨by kernel_rfl, fun j t ht => by
    rw [Tryz.params5] at ht;have hm : t ∈ [26, 5, 5, 5] := by simpa using Array.mem_of_getElem? ht
    have hall : ([26, 5, 5, 5].all fun u => !Tryz.prog.wantsStandIn u) = true := by kernel_rfl
    exact (show Tryz.prog.wantsStandIn t = false by simpa using List.all_eq_true.1 hall t hm)⟩)
  (by kernel_rfl)
end Go.Proofs.YtjdieimefebnfaaGreatDoor
