/- tannoylaw14.NetworkHides holds of all drafts. Conditions: the draft's numbers are octets and the like.
   The listed variable opened; what a call may change: nothing of what was there.
   Arguments opened: what comes in reads as typed data. Conditions: none but that it reads at all.
   Readers of the laws' parameters, printed by a program.
   What is read of a draft. No conditions.
   tannoylaw14.NetworkHides: the card. No conditions but the card's own. -/
import Derived.Test.YtdiagiflihpidaaDoorU10
import Derived.Test.YtdiagiflihpidaaDoorU8
import Derived.Test.YtdiagiflihpidaaDoorRows
import Derived.ChangeSame
import Derived.ChangeVars
import Derived.JoinedOf
import Derived.RowKit
import Derived.ProofKit
import Derived.LaidMore
import Derived.OpenShut
import Derived.Stop.Joined
import Derived.ChangeArms
import Derived.DataReads
import Derived.Carry
import Derived.SevenTiedAt
import Derived.Test.YtdiagiflihpidaaDoorU9
import Derived.Test.YtdiagiflihpidaaDoorCards
import Derived.Test.YtdiagiflihpidaaDoorTie
import Derived.KernelRfl
namespace Go.Proofs.YtdiagiflihpidaaDoor
open Go Go.EV
set_option maxRecDepth 100000
theorem half_set {hs : List SHost1} {k : Nat} {x : SHost1} (hx : hs[k]? = some x) : ((hs.take k).map l0 ++ hs.drop k).set k (l0 x) = (hs.take (k + 1)).map l0 ++ hs.drop (k + 1) := by
 have hk := (List.getElem?_eq_some_iff.1 hx).1
 have e1 : hs.drop k = x :: hs.drop (k + 1) := by rw [List.drop_eq_getElem_cons hk, (List.getElem?_eq_some_iff.1 hx).2]
 have hl : ((hs.take k).map l0).length = k := by simp; omega
 rw [e1, take_succ_map hx, List.set_append_right _ _ (by omega), hl, Nat.sub_self, List.set_cons_zero, List.append_assoc]; rfl
theorem half_get {hs : List SHost1} {k : Nat} {x : SHost1} (hx : hs[k]? = some x) : ((hs.take k).map l0 ++ hs.drop k)[k]? = some x := by
 have hk := (List.getElem?_eq_some_iff.1 hx).1
 have hl : ((hs.take k).map l0).length = k := by simp; omega
 rw [List.getElem?_append_right (by omega), hl, Nat.sub_self, List.getElem?_drop]
 simpa using hx
theorem half_len (hs : List SHost1) (k : Nat) (hk : k ≤ hs.length) : ((hs.take k).map l0 ++ hs.drop k).length = hs.length := by simp; omega
theorem ok14 (d : SDraft1) (s : SSending) (hd : DraftW d) (hsn : SendingOk s) : SOk (s14 d s) (fun r => r = true) := by
 show Ok (g14 d s) _
 unfold g14
 refine Ok.call t37 fun r hr => Ok.brF (by simp [hr]) (Ok.call (t39_1 hd) fun n hn => ?_)
 obtain ⟨hs0, ns⟩ := n
 obtain ⟨hv, _, _, _, hnew, hh, h6, hlen4, _⟩ := hn
 have hv : NV ⟨hs0, ns, [], 0, 0⟩ := hv
 have hh : ∀ h, h ∈ hs0 → NewHost d ns.length h := hh
 have h6 : hs0.length ≤ 6 := h6
 have hlen4 : hostLen hs0 = 4 := hlen4
 have hnew : NewNats ns := hnew
 refine Ok.bind (R := fun e => e.1 = hs0.map l0 ∧ (e.2.1 = -1 ∨ ∃ (a : Nat) (h : SHost1), e.2.1 = a ∧ hs0[a]? = some h ∧ 0 ≤ h.fNat) ∧ (e.2.2 = -1 ∨ ∃ (b : Nat) (h : SHost1), e.2.2 = b ∧ hs0[b]? = some h ∧ h.fNat < 0)) ?_ fun e he => ?_
 ·refine Ok.scan hs0.length (by omega) (fun k y => y.2.2.2 = (k : Int) ∧ y.1 = (hs0.take k).map l0 ++ hs0.drop k ∧ (y.2.1 = -1 ∨ ∃ (a : Nat) (h : SHost1), y.2.1 = a ∧ hs0[a]? = some h ∧ 0 ≤ h.fNat) ∧ (y.2.2.1 = -1 ∨ ∃ (b : Nat) (h : SHost1), y.2.2.1 = b ∧ hs0[b]? = some h ∧ h.fNat < 0)) ⟨rfl, by simp, .inl rfl, .inl rfl⟩ (fun k y hI hlt => ?_) fun y hI => ?_
  ·obtain ⟨y1, y2, y3, y4⟩ := y
   obtain ⟨rfl, i1, i2, i3⟩ := hI
   have i1 : y1 = (hs0.take k).map l0 ++ hs0.drop k := i1
   subst i1
   obtain ⟨x, _, hx'⟩ := get_lt hlt
   have hg := half_get hx'
   have hl := half_len hs0 k (by omega)
   have hck : (decide (0 ≤ (k : Int)) && decide ((k : Int) < ((((hs0.take k).map l0 ++ hs0.drop k).length : Nat) : Int))) = true := by rw [hl]; simp; omega
   have hst := half_set hx'
   have hnx := wi64_nat hlt (by omega)
   refine Ok.brT (by simp; omega) ?_
   simp only [Nat.zero_add, Int.toNat_natCast]
   refine Ok.chk hck (Ok.row rfl hg (Ok.chk hck (Ok.row rfl hg (Ok.re (Ok.gh (Ok.br (fun h => Ok.done ?_) fun h => Ok.done ?_))))))
   ·exact ⟨hnx, hst, .inr ⟨k, x, rfl, hx', of_decide_eq_true h⟩, i3⟩
   ·exact ⟨hnx, hst, i2, .inr ⟨k, x, rfl, hx', Int.not_le.1 (of_decide_eq_false h)⟩⟩
  ·obtain ⟨y1, y2, y3, y4⟩ := y
   obtain ⟨rfl, i1, i2, i3⟩ := hI
   have i1 : y1 = (hs0.take hs0.length).map l0 ++ hs0.drop hs0.length := i1
   rw [List.take_length, List.drop_length, List.append_nil] at i1
   exact Ok.brF (by simp) (Ok.done ⟨i1, i2, i3⟩)
 obtain ⟨e1, e2, e3⟩ := e
 obtain ⟨rfl, i2, i3⟩ := he
 refine Ok.cnd (R := fun c => c = false → (0 ≤ e2 ∧ 0 ≤ e3)) (Ok.br (fun h => Ok.done (by simp)) fun h => Ok.done fun h2 => ⟨Int.not_lt.1 (of_decide_eq_false h), Int.not_lt.1 (of_decide_eq_false h2)⟩) fun c hc => Ok.br (fun _ => Ok.done rfl) fun h => ?_
 have hp23 := hc h
 have p2 : 0 ≤ e2 := hp23.1
 have p3 : 0 ≤ e3 := hp23.2
 have j2 : e2 = -1 ∨ ∃ (a : Nat) (h : SHost1), e2 = a ∧ hs0[a]? = some h ∧ 0 ≤ h.fNat := i2
 have j3 : e3 = -1 ∨ ∃ (b : Nat) (h : SHost1), e3 = b ∧ hs0[b]? = some h ∧ h.fNat < 0 := i3
 rcases j2 with j2 | ⟨a, ha0, rfl, ha1, ha2⟩
 ·omega
 rcases j3 with j3 | ⟨b, hb0, rfl, hb1, hb2⟩
 ·omega
 have hal := (List.getElem?_eq_some_iff.1 ha1).1
 have hbl := (List.getElem?_eq_some_iff.1 hb1).1
 have ham := hh ha0 (List.mem_of_getElem? ha1)
 have hbm := hh hb0 (List.mem_of_getElem? hb1)
 obtain ⟨x, hx⟩ := at_of ha2 ham.1.2.1.2
 generalize hva : ha0.fNat.toNat = v at hx
 have hav : ha0.fNat = v := by omega
 have c : Cast (hs0.map l0) ns a b v (l0 ha0) (l0 hb0) x :=
  { nv := nv_l0 hv, ia := by rw [List.getElem?_map, ha1]; rfl, ib := by rw [List.getElem?_map, hb1]; rfl, ix := hx, an := hav, bn := by have := hbm.1.2.1.1; show hb0.fNat = -1; omega, lose := fun h hm => by obtain ⟨z, _, rfl⟩ := List.mem_map.1 hm; rfl, delay := fun h hm => by obtain ⟨z, hz, rfl⟩ := List.mem_map.1 hm; exact ⟨(hh z hz).1.2.2.1.1, (hh z hz).2.1⟩, count := fun h hm => by obtain ⟨z, hz, rfl⟩ := List.mem_map.1 hm; exact (hh z hz).2.2.1, byte := fun h hm => by obtain ⟨z, hz, rfl⟩ := List.mem_map.1 hm; exact (hh z hz).2.2.2.1, new := ⟨(hnew.2 v x hx).2.1, (hnew.2 v x hx).2.2.1⟩, len := by rw [hostLen_l0]; exact hlen4 }
 have hda := c.delay _ (List.mem_of_getElem? c.ia)
 have hdb := c.delay _ (List.mem_of_getElem? c.ib)
 have hvl : v < ns.length := (List.getElem?_eq_some_iff.1 hx).1
 simp only [Nat.zero_add, Int.toNat_natCast]
 refine Ok.chk (by simp; omega) (Ok.row rfl c.ia (Ok.chk ?_ (Ok.row rfl (by show ns[(l0 ha0).fNat.toNat]? = some x; rw [c.an, Int.toNat_natCast]; exact hx) (Ok.chk (by simp; omega) (Ok.row rfl c.ib (Ok.gh (Ok.gh ?_)))))))
 ·rw [c.an]; simp; omega
 have hlow := c.vx.1.2.2.2.2.1
 have sz : ∀ l : List UInt8, l.length ≤ 1200 → ((bs l).size : Int) ≤ 1200 := fun l hl => by rw [bs_size]; omega
 have arg1 : SendArg ⟨hs0.map l0, ns, [], 0, 0⟩ 0 b 80 ⟨x.fHost, x.fLow⟩ (bs [101, 97, 114, 108, 121]) (l0 hb0) :=
  ⟨⟨Int.le_refl _, by simp⟩, c.ib, ⟨by simp, by simp⟩, by show Usable _ (hostLen (hs0.map l0)); rw [c.len]; exact ⟨⟨c.sx, .inl rfl⟩, by simp only; omega, by simp only; omega⟩, sz _ (by simp), by simp, by rw [c.count _ (List.mem_of_getElem? c.ib)]; simp⟩
 refine Ok.call (t40 c.nv arg1) fun r1 hr1 => ?_
 obtain ⟨q1, q2⟩ := hr1
 obtain ⟨v1, w1, _, _⟩ := send_valid c.nv arg1 q1
 refine Ok.brF (by simp [q2]) (Ok.call (t41 v1 (by rw [w1]; simp) (by simp)) fun r2 hr2 => ?_)
 obtain ⟨l, o, g1, rfl⟩ := hr2
 obtain rfl := c.early q1 g1
 refine Ok.cnd (R := fun c => c = false) (Ok.brF rfl (Ok.done rfl)) fun c0 hc0 => Ok.brF hc0 ?_

 have m1 := tmod_in s.fPort (m := 8) (by omega)
 have m2 := Int.tmod_nonneg 8 hsn.2.1.1
 have w2 : wi64 ((5000 : Int) + wi64 (Int.tmod s.fPort 8)) = 5000 + Int.tmod s.fPort 8 := by rw [wi64_id (n := Int.tmod s.fPort 8) (by omega) (by omega), wi64_id (by omega) (by omega)]
 simp only [w2]
 generalize hport : 5000 + Int.tmod s.fPort 8 = port
 have hp : 1 ≤ port ∧ port ≤ 65535 := by omega
 have arg2 : SendArg ⟨hs0.map l0, ns, [], 0, 0⟩ 0 a port ⟨(l0 hb0).fIp, 80⟩ (bs [97, 115, 107]) (l0 ha0) :=
  ⟨⟨Int.le_refl _, by simp⟩, c.ia, hp, by show Usable _ (hostLen (hs0.map l0)); rw [c.len]; exact c.pub, sz _ (by simp), by simp, by rw [c.count _ (List.mem_of_getElem? c.ia)]; simp⟩
 refine Ok.call (t40 c.nv arg2) fun r3 hr3 => ?_
 obtain ⟨q3, q4⟩ := hr3
 obtain ⟨v2, w3, _, _⟩ := send_valid c.nv arg2 q3
 obtain ⟨p, hout, em⟩ := c.ask hp q3
 obtain ⟨_, _, _, us⟩ := out_valid hout rfl c.sx
 refine Ok.call (t47 v2) fun r4 hr4 => ?_
 have er4 : r4 = ((l0 ha0).fDelay, 0) := by
  rcases hr4 with ⟨h1, _⟩ | ⟨k, f, _, h2, rfl⟩
  ·rw [em] at h1; simp at h1
  ·rw [em] at h2
   cases k with
   | zero => obtain rfl := Option.some.inj h2; rfl
   | succ k => simp at h2
 subst er4
 refine Ok.call (t41 v2 (by rw [w3]; exact hda.1) (by simp only; omega)) fun r5 hr5 => ?_
 obtain ⟨l2, o2, g2, rfl⟩ := hr5
 obtain ⟨v3, w4⟩ := runs_valid g2 v2 (by rw [w3]; exact hda.1)
 have v4 := setNow_valid v3 w4 (by simp only; omega)
 rw [em] at g2
 obtain ⟨rfl, eo⟩ := c.comes g2
 refine Ok.cnd (R := fun c => c = false) ?_ fun c0 hc0 => Ok.brF hc0 ?_
 ·refine Ok.brF (by simp [q4]) (Ok.brF rfl (Ok.brF rfl (Ok.brF (by simp [mlen_eq]) (Ok.row rfl rfl (Ok.brF (by simp) (Ok.row rfl rfl (Ok.brF (by simp) (Ok.row rfl rfl (Ok.brF (by simp) (Ok.row rfl rfl (Ok.done (by simp))))))))))))
 refine Ok.row rfl rfl ?_
 have es : setNow o2 (l0 ha0).fDelay = ⟨(hs0.map l0).set a (bump (l0 ha0)), ns.set v (asked x p ⟨(l0 ha0).fIp, port⟩ ⟨(l0 hb0).fIp, 80⟩), [], (l0 ha0).fDelay, 1⟩ := by rw [eo]; rfl
 rw [es] at v4
 simp only [es]
 have hbb : ((hs0.map l0).set a (bump (l0 ha0)))[b]? = some (l0 hb0) := by rw [List.getElem?_set_ne c.ne]; exact c.ib
 have arg3 : SendArg ⟨(hs0.map l0).set a (bump (l0 ha0)), ns.set v (asked x p ⟨(l0 ha0).fIp, port⟩ ⟨(l0 hb0).fIp, 80⟩), [], (l0 ha0).fDelay, 1⟩ (l0 ha0).fDelay b 80 ⟨x.fHost, p⟩ (bs [114, 101, 112, 108, 121]) (l0 hb0) :=
  ⟨⟨Int.le_refl _, by show (l0 ha0).fDelay ≤ _; omega⟩, hbb, ⟨by simp, by simp⟩, by show Usable _ (hostLen ((hs0.map l0).set a (bump (l0 ha0)))); rw [hostLen_set (h' := bump (l0 ha0)) c.ia rfl, c.len]; exact us, sz _ (by simp), by simp, by rw [c.count _ (List.mem_of_getElem? c.ib)]; simp⟩
 refine Ok.call (t40 v4 arg3) fun r6 hr6 => ?_
 obtain ⟨q5, q6⟩ := hr6
 obtain ⟨v5, w5, _, _⟩ := send_valid v4 arg3 q5
 refine Ok.call (t41 v5 (by rw [w5]; omega) (by simp)) fun r7 hr7 => ?_
 obtain ⟨l3, o3, g3, rfl⟩ := hr7
 obtain ⟨f1, f2⟩ := c.reply hp hout q5 g3
 refine Ok.cnd (R := fun c => c = false) (Ok.brF (by simp [q6]) (Ok.done rfl)) fun c0 hc0 => Ok.brF hc0 ?_
 refine Ok.row (by simp) c.ib ?_
 have w6 : wi64 ((l0 ha0).fDelay + (l0 hb0).fDelay) = (l0 ha0).fDelay + (l0 hb0).fDelay := wi64_id (by omega) (by omega)
 simp only [w6]
 refine Ok.br (fun h => Ok.done ?_) fun h => ?_
 ·rw [f1 (of_decide_eq_true h)]; rfl
 ·rw [f2 (Int.not_le.1 (of_decide_eq_false h))]
  refine Ok.cnd (R := fun c => c = true) (Ok.brT (by simp [mlen_eq]) (Ok.row rfl rfl (Ok.row (by simp) c.ia (Ok.done (by simp))))) fun c0 hc0 => Ok.done hc0
end Go.Proofs.YtdiagiflihpidaaDoor
namespace Go.Proofs.YtdiagiflihpidaaDoor
open Go Go.EV
set_option maxRecDepth 100000
theorem own : ownKnob Tryd.prog.godebug = none := by kernel_rfl
theorem gKeys : Tryd.prog.globalNamed "tannoy/nat.keys" = some 0 := by kernel_rfl
theorem tKeys : (Tryd.prog.globals[0]?).map (·.type) = some 155 := by kernel_rfl
theorem cells154 : Tryd.prog.cellsOf 154 = 1 := by kernel_rfl
theorem cells155 : Tryd.prog.cellsOf 155 = 4 := by kernel_rfl
theorem und155 : Tryd.prog.underlying 155 = some (.array 4 154) := by kernel_rfl
theorem und154 : Tryd.prog.underlying 154 = some (.func #[27] #[27] false) := by kernel_rfl
abbrev laid1 : List (String × DataW Unit) := [("tannoy/nat.keys", Rows.laid_tannoy_nat_keys)]
theorem door_met (os : Os) (args : Array Value) : laidMetH Tryd.prog laid1 ((World.doorLaid Tryd.prog 14 os).forCall (fun _ _ => 0) ⟨#[], args, []⟩).memory :=
 laidMetH_of_parts3 (fuel := 8) (laidMet_of_run' 8 (by kernel_rfl) (by kernel_rfl)) (by kernel_rfl) (by kernel_rfl)
theorem of_laid {W : World} (h : laidMetH Tryd.prog laid1 W) : W.cell? ⟨0, 0, none⟩ = some .nilFunc ∧ W.cell? ⟨0, 1, none⟩ = some (.func (.func 146) #[] #[]) ∧
  W.cell? ⟨0, 2, none⟩ = some (.func (.func 147) #[] #[]) ∧ W.cell? ⟨0, 3, none⟩ = some (.func (.func 148) #[] #[]) := by
 obtain ⟨g, t, cs, fuel, p, hg, ht, hv, hd⟩ := h.funcs (List.mem_singleton.2 rfl)
 obtain rfl := Option.some.inj (gKeys.symm.trans hg)
 obtain rfl := Option.some.inj (tKeys.symm.trans ht)
 have hd' : DataW.trod (funcToken Tryd.prog) Tryd.prog W 0 (fun _ => true) true fuel 155 cs.toList = some (.agg [.nil, .held [116, 97, 110, 110, 111, 121, 47, 110, 97, 116, 46, 107, 101, 121, 115, 36, 49], .held [116, 97, 110, 110, 111, 121, 47, 110, 97, 116, 46, 107, 101, 121, 115, 36, 50], .held [116, 97, 110, 110, 111, 121, 47, 110, 97, 116, 46, 107, 101, 121, 115, 36, 51]], p) := hd
 obtain ⟨xs, m, rfl, hx, hl, hn, hel⟩ := DataW.trod_array und155 hd'
 rw [cells155] at hl
 obtain ⟨v0, v1, v2, v3, hcs⟩ : ∃ v0 v1 v2 v3, cs.toList = [v0, v1, v2, v3] := by
  match hc : cs.toList, hl with
  | [a, b, c, d], _ => exact ⟨a, b, c, d, rfl⟩
 obtain ⟨x0, x1, x2, x3, hxs⟩ : ∃ x0 x1 x2 x3, xs = [x0, x1, x2, x3] := by
  match xs, hn with
  | [a, b, c, d], _ => exact ⟨a, b, c, d, rfl⟩
 subst hxs
 simp only [Prod.mk.injEq, DataW.agg.injEq, List.map_cons, List.map_nil, List.cons.injEq, and_true] at hx
 obtain ⟨⟨h0, h1, h2, h3⟩, -⟩ := hx
 have e0 := hel 0 (by omega)
 have e1 := hel 1 (by omega)
 have e2 := hel 2 (by omega)
 have e3 := hel 3 (by omega)
 rw [cells154, hcs] at e0 e1 e2 e3
 simp at e0 e1 e2 e3
 have k0 : v0 = .nilFunc := by
  cases m with
  | zero => simp [DataW.trod] at e0
  | succ m =>
   cases v0 <;> simp [DataW.trod] at e0 <;> first | rfl | (subst e0; simp at h0)
 have k1 : v1 = .func (.func 146) #[] #[] := func_of_trod (f0 := 146) (q := x1.2) und154 (by kernel_rfl) (e1.trans (by rw [h1]))
 have k2 : v2 = .func (.func 147) #[] #[] := func_of_trod (f0 := 147) (q := x2.2) und154 (by kernel_rfl) (e2.trans (by rw [h2]))
 have k3 : v3 = .func (.func 148) #[] #[] := func_of_trod (f0 := 148) (q := x3.2) und154 (by kernel_rfl) (e3.trans (by rw [h3]))
 have ec : cs = #[v0, v1, v2, v3] := Array.toList_inj.1 (by rw [hcs])
 subst ec
 have c := World.var?_cell gKeys hv
 exact ⟨by rw [c 0, k0]; rfl, by rw [c 1, k1]; rfl, by rw [c 2, k2]; rfl, by rw [c 3, k3]; rfl⟩
def gh0 (w : World) : Gh := { loc := fun _ => none, own := fun _ => none, lim := fun B => match w.heap[B]? with | some (.cells cs _ _) => cs.size | _ => 0 }
theorem gh0_lim {w : World} {B o : Nat} {v : Value} (h : cellAt w B o = some v) : o < (gh0 w).lim B := by
 unfold cellAt World.cell? at h
 simp only [gh0]
 cases hb : w.heap[B]? with
 | none => simp [hb] at h
 | some x =>
  cases x with
  | cells cs t fz =>
   simp only [hb] at h
   simp only
   exact (Array.getElem?_eq_some_iff.1 (by simpa using h)).1
  | _ => simp [hb] at h
theorem globOk {w : World} (h : laidMetH Tryd.prog laid1 w) : GlobOk GG (gh0 w) w := fun g cells hg => by
 unfold GG at hg
 split at hg
 ·rename_i e
  subst e
  simp only [Option.some.injEq] at hg
  subst hg
  obtain ⟨c0, c1, c2, c3⟩ := of_laid h
  refine .snap _ 0 0 (fun i => match i with | 0 => .nilFunc | 1 => .func (.func 146) #[] #[] | 2 => .func (.func 147) #[] #[] | _ => .func (.func 148) #[] #[]) (fun i c hc => ?_) (fun i c hc => ?_)
  ·have key : ∀ (o : Nat) (v : Value), w.cell? ⟨0, o, none⟩ = some v → o < (gh0 w).lim 0 ∧ cellAt w 0 o = some v := fun o v hv => ⟨gh0_lim (v := v) hv, hv⟩
   match i, hc with
   | 0, _ => exact key _ _ c0
   | 1, _ => exact key _ _ c1
   | 2, _ => exact key _ _ c2
   | 3, _ => exact key _ _ c3
   | n + 4, hc => simp at hc
  ·match i, hc with
   | 0, hc => simp at hc; subst hc; exact .nilf
   | 1, hc => simp at hc; subst hc; exact .fn 146 [] [] [] [] rfl rfl (by simp) (by simp)
   | 2, hc => simp at hc; subst hc; exact .fn 147 [] [] [] [] rfl rfl (by simp) (by simp)
   | 3, hc => simp at hc; subst hc; exact .fn 148 [] [] [] [] rfl rfl (by simp) (by simp)
   | n + 4, hc => simp at hc
 ·simp at hg
theorem keptBut_of_grow {w w' : World} {γ' : Gh} (h : Grow (gh0 w) w γ' w') (may : MemPlace → Prop) : w.keptBut w' may := by
 refine ⟨h.os, h.output, fun i hi => ?_⟩
 have := (h.free i hi rfl).1
 rw [this]
 cases w.heap[i]? with
 | none => trivial
 | some x =>
  cases x with
  | cells c t fr => exact ⟨rfl, rfl, rfl, fun _ _ => rfl⟩
  | map es clock => exact .inr ⟨rfl, rfl⟩
  | _ => rfl
end Go.Proofs.YtdiagiflihpidaaDoor
namespace Go.Proofs.YtdiagiflihpidaaDoor
open Go Go.EV Go.ChangeShapes
set_option maxRecDepth 100000
def CellsD (W : World) (l : List V) (cs : List Value) : Prop := cs.length = l.length ∧ ∀ (i : Nat) (c : V) (v : Value), l[i]? = some c → cs[i]? = some v → RepD (gh0 W).lim W c v
theorem CellsD.one {W : World} {c : V} {v : Value} (h : RepD (gh0 W).lim W c v) : CellsD W [c] [v] := ⟨rfl, fun i c' v' hc hv => by
 cases i with
 | zero => simp at hc hv; subst hc; subst hv; exact h
 | succ i => simp at hc⟩
theorem CellsD.append {W : World} {l m : List V} {cs ds : List Value} (h : CellsD W l cs) (k : CellsD W m ds) : CellsD W (l ++ m) (cs ++ ds) :=
  ⟨by simp [h.1, k.1], fun i c v hc hv => by
    by_cases hi : i < l.length
    · rw [List.getElem?_append_left hi] at hc
      rw [List.getElem?_append_left (by rw [h.1]; exact hi)] at hv
      exact h.2 i c v hc hv
    · rw [List.getElem?_append_right (by omega)] at hc
      rw [List.getElem?_append_right (by rw [h.1]; omega), h.1] at hv
      exact k.2 _ c v hc hv⟩
def Rd (t : TypeId) {α : Type} (c : α → List V) (I : α → Prop) : Prop :=
 ∀ (H : Type) (enc : TypeId × Value → H) (W : World) (fuel : Nat) (cs : List Value) (x : DataW H × List MemPlace), DataW.trod enc Tryd.prog W 0 (fun _ => true) true fuel t cs = some x → ∃ a : α, I a ∧ CellsD W (c a) cs
theorem rdInt {t : TypeId} {k : IntKind} (ht : Tryd.prog.underlying t = some (.int k)) : Rd t (fun n : Int => [.int k n]) (fun n => (Lit.int k n).wf = true) := fun H enc W fuel cs x h => by
 obtain ⟨n, rfl, _, hw⟩ := DataW.trod_int ht h
 exact ⟨n, hw, .one (.int k n)⟩
theorem rdBool {t : TypeId} (ht : Tryd.prog.underlying t = some .bool) : Rd t (fun b : Bool => [.bool b]) (fun _ => True) := fun H enc W fuel cs x h => by
 cases fuel with
 | zero => simp [DataW.trod] at h
 | succ n =>
  unfold DataW.trod at h
  rw [ht] at h
  split at h <;> first | exact ⟨_, trivial, .one (.bool _)⟩ | simp_all
theorem fld {H : Type} {enc : TypeId × Value → H} {W : World} {n : Nat} {fs : Array Field} {cs : List Value} {xs : List (DataW H × List MemPlace)} {t o z : Nat} {α : Type} {c : α → List V} {I : α → Prop}
  (hel : ∀ (i : Nat) (f : Field), fs[i]? = some f → DataW.trod enc Tryd.prog W 0 (fun _ => true) true n f.type ((cs.drop f.offset).take (Tryd.prog.cellsOf f.type)) = xs[i]?) (hn : xs.length = fs.size) (i : Nat)
  (hf : (fs[i]?).map (fun f => (f.type, f.offset)) = some (t, o)) (hz : Tryd.prog.cellsOf t = z) (r : Rd t c I) : ∃ a : α, I a ∧ CellsD W (c a) ((cs.drop o).take z) := by
 obtain ⟨f, h1, h2⟩ := Option.map_eq_some_iff.1 hf
 simp only [Prod.mk.injEq] at h2
 obtain ⟨rfl, rfl⟩ := h2
 have hi : i < xs.length := by rw [hn]; exact (Array.getElem?_eq_some_iff.1 h1).1
 have := hel i f h1
 rw [List.getElem?_eq_getElem hi, hz] at this
 exact r H enc W n _ _ this
theorem cells_at {W : World} {a : Addr} {z : Nat} {ci : List Value} (h : W.cells? 0 a z = some ci) : ci.length = z ∧ ∀ r, r < z → W.cell? (a.add r) = ci[r]? := by
 unfold World.cells? at h
 rw [if_pos (Nat.zero_le _)] at h
 exact ⟨by simpa using mapM_some_length h, fun r hr => mapM_some_get h r r (by simp [hr])⟩
theorem spot_of {W : World} {a : Addr} {z q : Nat} {ci : List Value} (hz : 0 < z) (h : W.cells? 0 (a.add (q * z)) z = some ci) (hq : q = 0) : a.spot = none := by
 obtain ⟨h1, h2⟩ := cells_at h
 have h3 := h2 0 hz
 have e : (a.add (q * z)).add 0 = a := by subst hq; simp [Addr.add]
 rw [e, List.getElem?_eq_getElem (by omega)] at h3
 exact World.cell?_spot h3
theorem rdSlice {t e z : Nat} {α : Type} {ty : Ty α} {I : α → Prop} (ht : Tryd.prog.underlying t = some (.slice e)) (hz : Tryd.prog.cellsOf e = z) (hpos : 0 < z) (hlen : ∀ a, (ty.c a).length = z) (r : Rd e ty.c I) :
  Rd t (fun l : List α => [.sl false z (l.map ty.c)]) (fun l => ∀ a, a ∈ l → I a) := fun H enc W fuel cs x h => by
 rcases DataW.trod_slice ht h with ⟨rfl, -⟩ | ⟨a, len, cap, elems, rest, n, rfl, rfl, -, -, hlc, -, hel, hE, hR, -⟩
 ·exact ⟨[], by simp, .one (.slNil false z)⟩
 rw [hz] at hE hR
 have build : ∀ m, m ≤ len → ∃ l : List α, l.length = m ∧ (∀ a, a ∈ l → I a) ∧ ∀ i x, l[i]? = some x → ∃ ci, W.cells? 0 (a.add (i * z)) z = some ci ∧ CellsD W (ty.c x) ci := by
  intro m
  induction m with
  | zero => intro _; exact ⟨[], rfl, by simp, by simp⟩
  | succ m ih =>
   intro hm
   obtain ⟨l, l1, l2, l3⟩ := ih (by omega)
   have := hE m (by omega)
   rw [List.getElem?_eq_getElem (by omega)] at this
   obtain ⟨ci, hci, htr⟩ := Option.bind_eq_some_iff.1 this
   obtain ⟨y, hy, hcd⟩ := r H enc W n ci _ htr
   refine ⟨l ++ [y], by simp [l1], fun b hb => ?_, fun i x hx => ?_⟩
   ·rcases List.mem_append.1 hb with hb | hb
    ·exact l2 b hb
    ·rw [List.mem_singleton.1 hb]; exact hy
   ·by_cases hi : i < l.length
    ·rw [List.getElem?_append_left hi] at hx; exact l3 i x hx
    ·rw [List.getElem?_append_right (by omega)] at hx
     have hi2 : i - l.length = 0 := by
      have := (List.getElem?_eq_some_iff.1 hx).1
      simp at this; omega
     rw [hi2] at hx; simp at hx; subst hx
     have : i = m := by omega
     subst this
     exact ⟨ci, hci, hcd⟩
 obtain ⟨l, hl, hI, hc⟩ := build len (Nat.le_refl _)
 refine ⟨l, hI, .one ?_⟩
 by_cases hcap : cap = 0
 ·have : l = [] := List.length_eq_zero_iff.1 (by omega)
  subst this
  have h0 : len = 0 := by simpa using hl.symm
  subst h0; subst hcap
  exact .slNil false z (some a)
 have hspot : a.spot = none := by
  by_cases h0 : len = 0
  ·obtain ⟨r1, r2⟩ := hR rfl
   have := r2 0 (by omega)
   rw [List.getElem?_eq_getElem (by omega)] at this
   obtain ⟨ci, hci, _⟩ := Option.bind_eq_some_iff.1 this
   exact spot_of hpos (q := len + 0) hci (by omega)
  ·have := hE 0 (by omega)
   rw [List.getElem?_eq_getElem (by omega)] at this
   obtain ⟨ci, hci, _⟩ := Option.bind_eq_some_iff.1 this
   exact spot_of hpos hci rfl
 obtain ⟨B, o, sp⟩ := a
 simp only at hspot
 subst hspot
 have hsz : ∀ q, q ∈ l.map ty.c → q.length = z := fun q hq => by
  obtain ⟨y, _, rfl⟩ := List.mem_map.1 hq; exact hlen y
 have key : ∀ (i : Nat) (c : V), (l.map ty.c).flatten[i]? = some c → ∃ v, cellAt W B (o + i) = some v ∧ RepD (gh0 W).lim W c v := fun i c hci => by
  have e1 : i = (i / z) * z + i % z := by rw [Nat.mul_comm]; exact (Nat.div_add_mod i z).symm
  have hm := Nat.mod_lt i hpos
  rw [e1, flatten_get _ hsz _ _ hm, List.getElem?_map] at hci
  cases hx : l[i / z]? with
  | none => rw [hx] at hci; simp at hci
  | some y =>
   rw [hx] at hci
   simp only [Option.map_some, Option.bind_some] at hci
   obtain ⟨ci, k1, k2⟩ := hc _ _ hx
   obtain ⟨k3, k4⟩ := cells_at k1
   have k5 := k4 (i % z) hm
   have hv : ci[i % z]? = some (ci[i % z]'(by omega)) := List.getElem?_eq_getElem _
   refine ⟨_, ?_, k2.2 _ _ _ hci hv⟩
   rw [hv] at k5
   rw [Addr.add_eq, Addr.add_eq] at k5
   unfold cellAt
   rw [show o + i = o + (i / z) * z + i % z by omega]
   exact k5
 have fin := RepD.sl (lim := (gh0 W).lim) (w := W) false z (l.map ty.c) B o cap (fun i => (cellAt W B (o + i)).getD default) (by simp; omega) hsz
  (fun i c hci => by obtain ⟨v, v1, v2⟩ := key i c hci; rw [v1]; exact ⟨gh0_lim v1, rfl⟩) (fun i c hci => by obtain ⟨v, v1, v2⟩ := key i c hci; rw [v1]; exact v2)
 rw [List.length_map, hl] at fin
 exact fin
noncomputable def fsOf (t : TypeId) : Array Field := match Tryd.prog.underlying t with | some (.struct f) => f | _ => #[]
theorem open_agg {H : Type} {enc : TypeId × Value → H} {W : World} {t : TypeId} {α : Type} {c : α → List V} {I : α → Prop} (r : Rd t c I) {v : Value} {d : DataW H} {p : List MemPlace} (hv : ∃ cs, v = .agg cs)
  (h : DataW.Trod enc Tryd.prog W 0 (fun _ => true) true t v d p) : ∃ a : α, I a ∧ Rep (gh0 W) W (ofL []) uTop (.agg (c a)) v := by
 obtain ⟨cs, rfl⟩ := hv
 obtain ⟨fuel, hf⟩ := h
 obtain ⟨a, hi, hc⟩ := r H enc W fuel _ _ hf
 refine ⟨a, hi, ?_⟩
 have := Rep.agg (γ := gh0 W) (w := W) (bs := ofL []) (u := uTop) (c a) cs.toList hc.1 (fun i x y hx hy => .data (hc.2 i x y hx hy))
 simpa using this
theorem agg_struct {W : World} {base : Nat} {t : TypeId} {v : Value} {fs : Array Field} (ht : Tryd.prog.underlying t = some (.struct fs)) (h : Value.okWide Tryd.prog W .any base t v) : ∃ cs, v = .agg cs := by
 simp only [Value.okWide, ht] at h
 obtain ⟨cs, h1, _⟩ := h
 exact ⟨cs, h1⟩
theorem laidOut : laidOutB Tryd.prog = true := by kernel_rfl
theorem below_of_grow {w w' : World} {γ' : Gh} (h : Grow (gh0 w) w γ' w') : RowKit.Below w.heap.size w w' :=
 ⟨h.os, h.tape, h.output, h.size, fun k hk => (h.free k hk rfl).1⟩
section
variable {H : Type} {enc : TypeId × Value → H} {P : Program} {w : World} {base : Nat} {spare : Nat → Bool} {held : Bool}
end
theorem w8_iff {n : Int} (h : (Lit.int .u8 n).wf = true) : 0 ≤ n ∧ n ≤ 255 := by
 simp [Lit.wf, IntKind.min, IntKind.max, IntKind.signed, IntKind.bits] at h; omega
theorem w16_iff {n : Int} (h : (Lit.int .u16 n).wf = true) : 0 ≤ n ∧ n ≤ 65535 := by
 simp [Lit.wf, IntKind.min, IntKind.max, IntKind.signed, IntKind.bits] at h; omega
end Go.Proofs.YtdiagiflihpidaaDoor
namespace Go.Proofs.YtdiagiflihpidaaDoor
open Go Go.EV
set_option maxRecDepth 100000
theorem u4 : Tryd.prog.underlying 4 = some .bool := by kernel_rfl
theorem z4 : Tryd.prog.cellsOf 4 = 1 := by kernel_rfl
theorem u72 : Tryd.prog.underlying 72 = some (.struct (fsOf 72)) := by kernel_rfl
theorem z72 : Tryd.prog.cellsOf 72 = 3 := by kernel_rfl
theorem u68 : Tryd.prog.underlying 68 = some (.slice 25) := by kernel_rfl
theorem z68 : Tryd.prog.cellsOf 68 = 1 := by kernel_rfl
theorem u25 : Tryd.prog.underlying 25 = some (.struct (fsOf 25)) := by kernel_rfl
theorem z25 : Tryd.prog.cellsOf 25 = 6 := by kernel_rfl
theorem u5 : Tryd.prog.underlying 5 = some (.int .u8) := by kernel_rfl
theorem z5 : Tryd.prog.cellsOf 5 = 1 := by kernel_rfl
theorem u22 : Tryd.prog.underlying 22 = some (.int .u16) := by kernel_rfl
theorem z22 : Tryd.prog.cellsOf 22 = 1 := by kernel_rfl
theorem u23 : Tryd.prog.underlying 23 = some (.slice 126) := by kernel_rfl
theorem z23 : Tryd.prog.cellsOf 23 = 1 := by kernel_rfl
theorem u126 : Tryd.prog.underlying 126 = some (.struct (fsOf 126)) := by kernel_rfl
theorem z126 : Tryd.prog.cellsOf 126 = 4 := by kernel_rfl
theorem ln4 {α : Type} {l : List α} (h : l.length = 4) : ∃ v0 v1 v2 v3, l = [v0, v1, v2, v3] := by match l, h with | [v0, v1, v2, v3], _ => exact ⟨v0, v1, v2, v3, rfl⟩
def c126 (x : SMove) : List V := [.int .u8 x.fWhat, .int .u8 x.fFrom, .int .u8 x.fTo, .int .u16 x.fAfter]
def Ok126 (x : SMove) : Prop := (Lit.int .u8 x.fWhat).wf = true ∧ (Lit.int .u8 x.fFrom).wf = true ∧ (Lit.int .u8 x.fTo).wf = true ∧ (Lit.int .u16 x.fAfter).wf = true
theorem rd126 : Rd 126 c126 Ok126 := fun H enc W fuel cs x h => by
 obtain ⟨xs, m, rfl, -, hl, hn, hel⟩ := DataW.trod_struct u126 h
 rw [z126] at hl
 obtain ⟨v0, v1, v2, v3, rfl⟩ := ln4 hl
 obtain ⟨a0, i0, k0⟩ := fld hel hn 0 (t := 5) (o := 0) (by kernel_rfl) z5 (rdInt u5)
 obtain ⟨a1, i1, k1⟩ := fld hel hn 1 (t := 5) (o := 1) (by kernel_rfl) z5 (rdInt u5)
 obtain ⟨a2, i2, k2⟩ := fld hel hn 2 (t := 5) (o := 2) (by kernel_rfl) z5 (rdInt u5)
 obtain ⟨a3, i3, k3⟩ := fld hel hn 3 (t := 22) (o := 3) (by kernel_rfl) z22 (rdInt u22)
 exact ⟨⟨a0, a1, a2, a3⟩, ⟨i0, i1, i2, i3⟩, k0.append (k1.append (k2.append k3))⟩
def Ok23 (l : List SMove) : Prop := ∀ a, a ∈ l → Ok126 a
theorem rd23 : Rd 23 (fun l : List SMove => [.sl false 4 (l.map tySMove.c)]) Ok23 := rdSlice (ty := tySMove) u23 z126 (by omega) (fun _ => rfl) rd126
theorem ln6 {α : Type} {l : List α} (h : l.length = 6) : ∃ v0 v1 v2 v3 v4 v5, l = [v0, v1, v2, v3, v4, v5] := by match l, h with | [v0, v1, v2, v3, v4, v5], _ => exact ⟨v0, v1, v2, v3, v4, v5, rfl⟩
def c25 (x : SDraft) : List V := [.int .u8 x.fMapping, .int .u8 x.fFilter, .int .u8 x.fPorts, .int .u16 x.fTimeout, .bool x.fHairpin, .sl false 4 (List.map tySMove.c x.fMoves)]
def Ok25 (x : SDraft) : Prop := (Lit.int .u8 x.fMapping).wf = true ∧ (Lit.int .u8 x.fFilter).wf = true ∧ (Lit.int .u8 x.fPorts).wf = true ∧ (Lit.int .u16 x.fTimeout).wf = true ∧ True ∧ Ok23 x.fMoves
theorem rd25 : Rd 25 c25 Ok25 := fun H enc W fuel cs x h => by
 obtain ⟨xs, m, rfl, -, hl, hn, hel⟩ := DataW.trod_struct u25 h
 rw [z25] at hl
 obtain ⟨v0, v1, v2, v3, v4, v5, rfl⟩ := ln6 hl
 obtain ⟨a0, i0, k0⟩ := fld hel hn 0 (t := 5) (o := 0) (by kernel_rfl) z5 (rdInt u5)
 obtain ⟨a1, i1, k1⟩ := fld hel hn 1 (t := 5) (o := 1) (by kernel_rfl) z5 (rdInt u5)
 obtain ⟨a2, i2, k2⟩ := fld hel hn 2 (t := 5) (o := 2) (by kernel_rfl) z5 (rdInt u5)
 obtain ⟨a3, i3, k3⟩ := fld hel hn 3 (t := 22) (o := 3) (by kernel_rfl) z22 (rdInt u22)
 obtain ⟨a4, i4, k4⟩ := fld hel hn 4 (t := 4) (o := 4) (by kernel_rfl) z4 (rdBool u4)
 obtain ⟨a5, i5, k5⟩ := fld hel hn 5 (t := 23) (o := 5) (by kernel_rfl) z23 rd23
 exact ⟨⟨a0, a1, a2, a3, a4, a5⟩, ⟨i0, i1, i2, i3, i4, i5⟩, k0.append (k1.append (k2.append (k3.append (k4.append k5))))⟩
def Ok68 (l : List SDraft) : Prop := ∀ a, a ∈ l → Ok25 a
theorem rd68 : Rd 68 (fun l : List SDraft => [.sl false 6 (l.map tySDraft.c)]) Ok68 := rdSlice (ty := tySDraft) u68 z25 (by omega) (fun _ => rfl) rd25
theorem u69 : Tryd.prog.underlying 69 = some (.slice 131) := by kernel_rfl
theorem z69 : Tryd.prog.cellsOf 69 = 1 := by kernel_rfl
theorem u131 : Tryd.prog.underlying 131 = some (.struct (fsOf 131)) := by kernel_rfl
theorem z131 : Tryd.prog.cellsOf 131 = 4 := by kernel_rfl
def c131 (x : SPlace1) : List V := [.int .u8 x.fNat, .int .u8 x.fIp, .int .u8 x.fDelay, .int .u8 x.fLose]
def Ok131 (x : SPlace1) : Prop := (Lit.int .u8 x.fNat).wf = true ∧ (Lit.int .u8 x.fIp).wf = true ∧ (Lit.int .u8 x.fDelay).wf = true ∧ (Lit.int .u8 x.fLose).wf = true
theorem rd131 : Rd 131 c131 Ok131 := fun H enc W fuel cs x h => by
 obtain ⟨xs, m, rfl, -, hl, hn, hel⟩ := DataW.trod_struct u131 h
 rw [z131] at hl
 obtain ⟨v0, v1, v2, v3, rfl⟩ := ln4 hl
 obtain ⟨a0, i0, k0⟩ := fld hel hn 0 (t := 5) (o := 0) (by kernel_rfl) z5 (rdInt u5)
 obtain ⟨a1, i1, k1⟩ := fld hel hn 1 (t := 5) (o := 1) (by kernel_rfl) z5 (rdInt u5)
 obtain ⟨a2, i2, k2⟩ := fld hel hn 2 (t := 5) (o := 2) (by kernel_rfl) z5 (rdInt u5)
 obtain ⟨a3, i3, k3⟩ := fld hel hn 3 (t := 5) (o := 3) (by kernel_rfl) z5 (rdInt u5)
 exact ⟨⟨a0, a1, a2, a3⟩, ⟨i0, i1, i2, i3⟩, k0.append (k1.append (k2.append k3))⟩
def Ok69 (l : List SPlace1) : Prop := ∀ a, a ∈ l → Ok131 a
theorem rd69 : Rd 69 (fun l : List SPlace1 => [.sl false 4 (l.map tySPlace1.c)]) Ok69 := rdSlice (ty := tySPlace1) u69 z131 (by omega) (fun _ => rfl) rd131
theorem u70 : Tryd.prog.underlying 70 = some (.slice 82) := by kernel_rfl
theorem z70 : Tryd.prog.cellsOf 70 = 1 := by kernel_rfl
theorem u82 : Tryd.prog.underlying 82 = some (.struct (fsOf 82)) := by kernel_rfl
theorem z82 : Tryd.prog.cellsOf 82 = 5 := by kernel_rfl
theorem ln5 {α : Type} {l : List α} (h : l.length = 5) : ∃ v0 v1 v2 v3 v4, l = [v0, v1, v2, v3, v4] := by match l, h with | [v0, v1, v2, v3, v4], _ => exact ⟨v0, v1, v2, v3, v4, rfl⟩
def c82 (x : SSending) : List V := [.int .u8 x.fHost, .int .u8 x.fPort, .int .u8 x.fTo, .int .u16 x.fAfter, .bool x.fStep]
def Ok82 (x : SSending) : Prop := (Lit.int .u8 x.fHost).wf = true ∧ (Lit.int .u8 x.fPort).wf = true ∧ (Lit.int .u8 x.fTo).wf = true ∧ (Lit.int .u16 x.fAfter).wf = true ∧ True
theorem rd82 : Rd 82 c82 Ok82 := fun H enc W fuel cs x h => by
 obtain ⟨xs, m, rfl, -, hl, hn, hel⟩ := DataW.trod_struct u82 h
 rw [z82] at hl
 obtain ⟨v0, v1, v2, v3, v4, rfl⟩ := ln5 hl
 obtain ⟨a0, i0, k0⟩ := fld hel hn 0 (t := 5) (o := 0) (by kernel_rfl) z5 (rdInt u5)
 obtain ⟨a1, i1, k1⟩ := fld hel hn 1 (t := 5) (o := 1) (by kernel_rfl) z5 (rdInt u5)
 obtain ⟨a2, i2, k2⟩ := fld hel hn 2 (t := 5) (o := 2) (by kernel_rfl) z5 (rdInt u5)
 obtain ⟨a3, i3, k3⟩ := fld hel hn 3 (t := 22) (o := 3) (by kernel_rfl) z22 (rdInt u22)
 obtain ⟨a4, i4, k4⟩ := fld hel hn 4 (t := 4) (o := 4) (by kernel_rfl) z4 (rdBool u4)
 exact ⟨⟨a0, a1, a2, a3, a4⟩, ⟨i0, i1, i2, i3, i4⟩, k0.append (k1.append (k2.append (k3.append k4)))⟩
def Ok70 (l : List SSending) : Prop := ∀ a, a ∈ l → Ok82 a
theorem rd70 : Rd 70 (fun l : List SSending => [.sl false 5 (l.map tySSending.c)]) Ok70 := rdSlice (ty := tySSending) u70 z82 (by omega) (fun _ => rfl) rd82
theorem ln3 {α : Type} {l : List α} (h : l.length = 3) : ∃ v0 v1 v2, l = [v0, v1, v2] := by match l, h with | [v0, v1, v2], _ => exact ⟨v0, v1, v2, rfl⟩
def c72 (x : SDraft1) : List V := [.sl false 6 (List.map tySDraft.c x.fNats), .sl false 4 (List.map tySPlace1.c x.fHosts), .sl false 5 (List.map tySSending.c x.fSent)]
def Ok72 (x : SDraft1) : Prop := Ok68 x.fNats ∧ Ok69 x.fHosts ∧ Ok70 x.fSent
theorem rd72 : Rd 72 c72 Ok72 := fun H enc W fuel cs x h => by
 obtain ⟨xs, m, rfl, -, hl, hn, hel⟩ := DataW.trod_struct u72 h
 rw [z72] at hl
 obtain ⟨v0, v1, v2, rfl⟩ := ln3 hl
 obtain ⟨a0, i0, k0⟩ := fld hel hn 0 (t := 68) (o := 0) (by kernel_rfl) z68 rd68
 obtain ⟨a1, i1, k1⟩ := fld hel hn 1 (t := 69) (o := 1) (by kernel_rfl) z69 rd69
 obtain ⟨a2, i2, k2⟩ := fld hel hn 2 (t := 70) (o := 2) (by kernel_rfl) z70 rd70
 exact ⟨⟨a0, a1, a2⟩, ⟨i0, i1, i2⟩, k0.append (k1.append k2)⟩
end Go.Proofs.YtdiagiflihpidaaDoor
namespace Go.Proofs.YtdiagiflihpidaaDoor
open Go Go.EV
set_option maxRecDepth 100000
theorem sending_of {x : SSending} (h : Ok82 x) : SendingOk x := ⟨w8_iff h.1, w8_iff h.2.1, w8_iff h.2.2.1, w16_iff h.2.2.2.1⟩
theorem draftW_of {d : SDraft1} (h : Ok72 d) : DraftW d :=
 ⟨fun x hx => ⟨(w8_iff (h.1 x hx).1).1, (w8_iff (h.1 x hx).2.1).1, (w8_iff (h.1 x hx).2.2.1).1, (w16_iff (h.1 x hx).2.2.2.1).1⟩,
  fun p hp => ⟨w8_iff (h.2.1 p hp).1, w8_iff (h.2.1 p hp).2.1, w8_iff (h.2.1 p hp).2.2.1, w8_iff (h.2.1 p hp).2.2.2⟩, fun x hx => sending_of (h.2.2 x hx)⟩
end Go.Proofs.YtdiagiflihpidaaDoor
namespace Go.Proofs.YtdiagiflihpidaaDoor
open Go Go.EV Go.ChangeShapes Go.WideShapes Go.ChangeAt Go.RowKit
set_option maxRecDepth 100000
theorem calls14 {w : World} (h : laidMetH Tryd.prog laid1 w) {v0 v1 : Value} {x0 : SDraft1} {x1 : SSending} (hd : DraftW x0) (hs : SendingOk x1)
  (r0 : Rep (gh0 w) w (ofL []) uTop (.agg (c72 x0)) v0) (r1 : Rep (gh0 w) w (ofL []) uTop (.agg (c82 x1)) v1) :
  Calls Tryd.prog 14 #[v0, v1] w fun e w' => e = .returned (.bool true) ∧ ∃ γ', Grow (gh0 w) w γ' w' := by
 have c : CallC Tryd.prog GG 14 [.agg (c72 x0), .agg (c82 x1)] (ofL []) (.bool true) (ofL []) := (s14 x0 x1).ok true (SOk.eq (ok14 x0 x1 hd hs))
 refine (c (gh0 w) w #[v0, v1] (globOk h) (fun B x hx => by simp [gh0] at hx) ⟨rfl, fun i c v hc hv => ?_⟩ (fun b k hb => by simp [ofL] at hb)).mono fun e w' hq => ?_
 ·match i, hc, hv with
  | 0, hc, hv => simp at hc hv; subst hc; subst hv; exact r0
  | 1, hc, hv => simp at hc hv; subst hc; subst hv; exact r1
  | n + 2, hc, hv => simp at hc
 ·obtain ⟨v, γ', rfl, hg, _, hr, _⟩ := hq
  have := hr.bool_inv
  subst this
  exact ⟨rfl, γ', hg⟩
noncomputable def zero14 : Array Value := #[.agg #[.slice none 0 0, .slice none 0 0, .slice none 0 0],
 .agg #[.int .u8 0, .int .u8 0, .int .u8 0, .int .u16 0, .bool false]]
theorem lifted14 (os : Os) (started : os.Started) (H : Type) (enc : TypeId × Value → H) :
  ReturnsInHanded {} Tryd.checked os 14 .any (fun w args => (Rows.networkHidesSpec.pre enc Tryd.prog Tryd.f14 [] false w args ∧ laidMetH Tryd.prog laid1 w) ∧ sizedMet enc Tryd.prog Tryd.f14 (OpenSpec.ofChange Rows.networkHidesSpec) false w args)
   (Rows.networkHidesSpec.post enc Tryd.prog Tryd.f14 false true false false) := by
 refine returnsInHanded_of_change_and (C := Tryd.checked) (X := fun w _ => laidMetH Tryd.prog laid1 w) (fun _ _ _ hh h => h.of_heap hh) own started (by kernel_rfl) Tryd.func14
  (ChangeSpec.witness_shaped (enc := enc) (C := Tryd.checked) (os := os) (X := fun w _ => laidMetH Tryd.prog laid1 w) false (World.doorLaid Tryd.prog 14 os) zero14 8 rfl (World.shaped_of_RefB (by kernel_rfl) (by kernel_rfl)) (by kernel_rfl) (by kernel_rfl) (by kernel_rfl) (door_met os _)) ?_
 intro W base args ds gs before hval0 hW _ _ hL _
 have hval : ∀ (j : Nat) t v, Tryd.f14.params[j]? = some t → args[j]? = some v → Value.okWide Tryd.prog W .any base t v := hval0
 have hW' := hW
 have hlt0 := DataW.Whole.lt hW
 obtain ⟨p, q, hA0, hV, rfl, hfz, hnd⟩ := hW
 have hA : DataW.TrodAll enc Tryd.prog W 0 (fun _ => true) true Tryd.f14.params.toList args.toList ds p := hA0
 rw [Tryd.params14] at hA hval
 obtain ⟨rfl, rfl⟩ := trodVars_none hV
 obtain ⟨v0, v1, d0, d1, p0, p1, rfl, rfl, rfl, h0, h1⟩ := trodAll_two hA
 obtain ⟨x0, i0, r0⟩ := open_agg rd72 (agg_struct u72 (hval 0 72 v0 rfl rfl)) h0
 obtain ⟨x1, i1, r1⟩ := open_agg rd82 (agg_struct u82 (hval 1 82 v1 rfl rfl)) h1
 refine (calls14 hL (draftW_of i0) (sending_of i1) r0 r1).mono fun e W' ⟨he, γ', hg⟩ => ?_
 subst he
 have hb := below_of_grow hg
 refine ⟨_, rfl, [d0, d1], [], _, [], (p0 ++ p1), [], hW', trodAll_mk1 (shut_bool u4 true), ?_, rfl, keptBut_of_grow hg _, fun h => by cases h⟩
 show DataW.TrodAll enc Tryd.prog W' 0 (fun b => decide (b < W.heap.size)) true Tryd.f14.params.toList [v0, v1] [d0, d1] _
 rw [Tryd.params14]
 exact trodAll_mk2
  (Below.trod laidOut (by kernel_rfl) (of_decide_eq_true (by kernel_rfl)) h0 hb (fun x hx => hlt0 x (by simp [hx])))
  (Below.trod laidOut (by kernel_rfl) (of_decide_eq_true (by kernel_rfl)) h1 hb (fun x hx => hlt0 x (by simp [hx])))
theorem holds14 : Rows.NetworkHidesSaid :=
 OpenClaim.holds_of_wide 14 Tryd.f14 rfl rfl rfl rfl rfl rfl rfl ⟨rfl, rfl, rfl, rfl, rfl⟩ rfl rfl rfl rfl rfl (by kernel_rfl) Tryd.func14 (by kernel_rfl)
  (of_decide_eq_true (by kernel_rfl)) (by unfold Func.isWrapper; first | (rw [if_pos (by decide +kernel)]; kernel_rfl) | (rw [if_neg (by decide +kernel)]; exact ⟨rfl, rfl⟩))
  (fun os started H enc _ => lifted14 os started H enc)
theorem networkHides_card : Rows.NetworkHidesCardSaid :=
 Claim7.holds_tied_plain_at .later [] [.funcs] true (true, "d9d31fb8dbcb4dca77f16e6eba1af0d680b8feeef2c2c067e149d5f1543ab3eb") false
  holds14 (fun _ h => by cases h) (by kernel_rfl) (fun _ h => by cases h) networkHides_row_tie rfl ⟨rfl, rfl⟩ (by kernel_rfl) rfl
  (fun f fn hf hfn => by
   obtain rfl : f = 14 := Option.some.inj ((show Tryd.prog.funcNamed "tannoy/tannoylaw14.NetworkHides" = some 14 by kernel_rfl).symm.trans hf) |>.symm
   obtain rfl : fn = Tryd.f14 := (Option.some.inj (Tryd.func14.symm.trans hfn)).symm
   exact ⟨by kernel_rfl, fun j t ht => by
    rw [Tryd.params14] at ht
    have hm : t ∈ [72, 82] := by simpa using Array.mem_of_getElem? ht
    have hall : ([72, 82].all fun u => !Tryd.prog.wantsStandIn u) = true := by kernel_rfl
    exact (show Tryd.prog.wantsStandIn t = false by simpa using List.all_eq_true.1 hall t hm)⟩)
  (by kernel_rfl)
end Go.Proofs.YtdiagiflihpidaaDoor
