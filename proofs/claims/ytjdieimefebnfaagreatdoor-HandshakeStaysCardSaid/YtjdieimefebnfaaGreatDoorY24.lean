/- tannoylaw20.HandshakeStays: the card. No conditions but the card's own. -/
import Derived.Test.YtjdieimefebnfaaGreatDoorY23
import Derived.Test.YtjdieimefebnfaaGreatDoorCards
set_option linter.unusedVariables false
set_option linter.unusedSimpArgs false
set_option maxHeartbeats 4000000
namespace Go.Proofs.YtjdieimefebnfaaGreatDoor
open Go Go.EV Go.ChangeShapes Go.WideShapes Go.ChangeAt Go.RowKit
set_option maxRecDepth 100000
theorem Qu9 {w : World} (h : laidMetH Tryz.prog Eh w) {v0 v1 v2 v3 : Value} {x0 : QE} {x1 : Qq} {x2 : Int} {x3 : Int} (hd : Xh x0) (ha : 0 ≤ x3 ∧ x3 < 65536)
  (r0 : Qy (Bo w) w (Qe []) Qk (.agg (c26 x0)) v0) (r1 : Qy (Bo w) w (Qe []) Qk (.agg (c34 x1)) v1) (r2 : Qy (Bo w) w (Qe []) Qk (.int .u8 x2) v2) (r3 : Qy (Bo w) w (Qe []) Qk (.int .u16 x3) v3) :
  Calls Tryz.prog 6 #[v0, v1, v2, v3] w fun e w' => e = .returned (.bool true) ∧ ∃ γ', Qd (Bo w) w γ' w' := by
 have c : QS Tryz.prog GG 6 [.agg (c26 x0), .agg (c34 x1), .int .u8 x2, .int .u16 x3] (Qe []) (.bool true) (Qe []) := (s6 x0 x1 x2 x3).ok true (Qj.eq (gM x0 x1 x2 x3 hd ha))
 refine (c (Bo w) w #[v0, v1, v2, v3] (Qyp h) (fun B x hx => by simp [Bo] at hx) ⟨rfl, fun i c v hc hv => ?_⟩ (fun b k hb => by simp [Qe] at hb)).mono fun e w' hq => ?_
 ·match i, hc, hv with
  | 0, hc, hv => simp at hc hv; subst hc; subst hv; exact r0
  | 1, hc, hv => simp at hc hv; subst hc; subst hv; exact r1
  | 2, hc, hv => simp at hc hv; subst hc; subst hv; exact r2
  | 3, hc, hv => simp at hc hv; subst hc; subst hv; exact r3
  | n + 4, hc, hv => simp at hc
 ·obtain ⟨v, γ', rfl, hg, _, hr, _⟩ := hq
  have := hr.QN
  subst this
  exact ⟨rfl, γ', hg⟩
noncomputable def Qug : Array Value := #[.agg #[.int .u8 0, .int .u8 0, .int .u16 0, .int .u16 0, .int .u16 0, .int .u8 0, .int .u8 0],
 .agg #[.int .i64 0, .int .i64 0, .string ByteArray.empty],
 .int .u8 0,
 .int .u16 0]
theorem rY (os : Os) (started : os.Started) (H : Type) (enc : TypeId × Value → H) :
  ReturnsInHanded {} Tryz.checked os 6 .any (fun w args => (Rows.handshakeStaysSpec.pre enc Tryz.prog Tryz.f6 [] false w args ∧ laidMetH Tryz.prog Eh w) ∧ sizedMet enc Tryz.prog Tryz.f6 (OpenSpec.ofChange Rows.handshakeStaysSpec) false w args)
   (Rows.handshakeStaysSpec.post enc Tryz.prog Tryz.f6 false true false false) := by
 refine returnsInHanded_of_change_and (C := Tryz.checked) (X := fun w _ => laidMetH Tryz.prog Eh w) (fun _ _ _ hh h => h.of_heap hh) own started (by kernel_rfl) Tryz.func6
  (ChangeSpec.witness_shaped (enc := enc) (C := Tryz.checked) (os := os) (X := fun w _ => laidMetH Tryz.prog Eh w) false (World.laidAll Tryz.prog os Eh) Qug 8 (World.laidAll_os _ _ _) (oV os) (by kernel_rfl) (by kernel_rfl) (by kernel_rfl) (eE os _)) ?_
 intro W base args ds gs before hval0 hW _ _ hL _
 have hval : ∀ (j : Nat) t v, Tryz.f6.params[j]? = some t → args[j]? = some v → Value.okWide Tryz.prog W .any base t v := hval0
 have hW' := hW
 have hlt0 := DataW.Whole.lt hW
 obtain ⟨p, q, hA0, hV, rfl, hfz, hnd⟩ := hW
 have hA : DataW.TrodAll enc Tryz.prog W 0 (fun _ => true) true Tryz.f6.params.toList args.toList ds p := hA0
 rw [Tryz.params6] at hA hval
 obtain ⟨rfl, rfl⟩ := trodVars_none hV
 obtain ⟨v0, v1, v2, v3, d0, d1, d2, d3, p0, p1, p2, p3, rfl, rfl, rfl, h0, h1, h2, h3⟩ := trodAll_four hA
 obtain ⟨x0, i0, r0⟩ := NG Qxv (IB u26 (hval 0 26 v0 rfl rfl)) h0
 obtain ⟨x1, i1, r1⟩ := NG Qxt (IB u34 (hval 1 34 v1 rfl rfl)) h1
 obtain ⟨x2, i2, q2⟩ := NF (MN u5) (CV u5 (hval 2 5 v2 rfl rfl)) h2
 have r2 := q2 _ rfl
 obtain ⟨x3, i3, q3⟩ := NF (MN u23) (CV u23 (hval 3 23 v3 rfl rfl)) h3
 have r3 := q3 _ rfl
 refine (Qu9 hL (Qu1 i0) ⟨(MH i3).1, Int.lt_add_one_of_le (MH i3).2⟩ r0 r1 r2 r3).mono fun e W' ⟨he, γ', hg⟩ => ?_
 subst he
 have hb := OW hg
 refine ⟨_, rfl, [d0, d1, d2, d3], [], _, [], (p0 ++ (p1 ++ (p2 ++ p3))), [], hW', trodAll_mk1 (shut_bool u4 true), ?_, rfl, Xr hg _, fun h => by cases h⟩
 show DataW.TrodAll enc Tryz.prog W' 0 (fun b => decide (b < W.heap.size)) true Tryz.f6.params.toList [v0, v1, v2, v3] [d0, d1, d2, d3] _
 rw [Tryz.params6]
 exact trodAll_mk4
  (Below.trod laidOut (by kernel_rfl) (of_decide_eq_true (by kernel_rfl)) h0 hb (fun x hx => hlt0 x (by simp [hx])))
  (Below.trod laidOut (by kernel_rfl) (of_decide_eq_true (by kernel_rfl)) h1 hb (fun x hx => hlt0 x (by simp [hx])))
  (Below.trod laidOut (by kernel_rfl) (of_decide_eq_true (by kernel_rfl)) h2 hb (fun x hx => hlt0 x (by simp [hx])))
  (Below.trod laidOut (by kernel_rfl) (of_decide_eq_true (by kernel_rfl)) h3 hb (fun x hx => hlt0 x (by simp [hx])))
theorem Qyd : Rows.HandshakeStaysSaid :=
 OpenClaim.holds_of_wide 6 Tryz.f6 rfl rfl rfl rfl rfl rfl rfl ⟨rfl, rfl, rfl, rfl, rfl⟩ rfl rfl rfl rfl rfl (by kernel_rfl) Tryz.func6 Qjf
  (of_decide_eq_true (by kernel_rfl)) (by unfold Func.isWrapper; first | (rw [if_pos (by decide +kernel)]; kernel_rfl) | (rw [if_neg (by decide +kernel)]; exact ⟨rfl, rfl⟩))
  (fun os started H enc _ => rY os started H enc)
theorem handshakeStays_card : Rows.HandshakeStaysCardSaid :=
 Claim7.holds_tied_plain_at .later [] [.data, .pinned] true (true, "481066415f6c6c2da205ca5fc6b9215c6847fcc9a7d3abc9176e6d654e29dc32") true
  Qyd (fun _ h => by cases h) (by kernel_rfl) (fun _ h => by cases h) handshakeStays_row_tie rfl ⟨rfl, rfl⟩ (by kernel_rfl) rfl
  (fun f fn hf hfn => by
   obtain rfl : f = 6 := Option.some.inj ((show Tryz.prog.funcNamed "tannoy/tannoylaw20.HandshakeStays" = some 6 by kernel_rfl).symm.trans hf) |>.symm
   obtain rfl : fn = Tryz.f6 := (Option.some.inj (Tryz.func6.symm.trans hfn)).symm
   exact ⟨by kernel_rfl, fun j t ht => by
    rw [Tryz.params6] at ht
    have hm : t ∈ [26, 34, 5, 23] := by simpa using Array.mem_of_getElem? ht
    have hall : ([26, 34, 5, 23].all fun u => !Tryz.prog.wantsStandIn u) = true := by kernel_rfl
    exact (show Tryz.prog.wantsStandIn t = false by simpa using List.all_eq_true.1 hall t hm)⟩)
  (by kernel_rfl)
end Go.Proofs.YtjdieimefebnfaaGreatDoor
