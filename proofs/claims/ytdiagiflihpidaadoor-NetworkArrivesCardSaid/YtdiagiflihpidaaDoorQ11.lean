/- What is sent arrives, each sender's in order. Conditions: the draft's numbers are octets and the like, its hosts fit into a machine.
   tannoylaw14.NetworkArrives answers true. Conditions: the draft's and the sendings' numbers are octets and the like, the draft's hosts fit into a machine.
   The listed variable opened; what a call may change: nothing of what was there.
   Arguments opened: what comes in reads as typed data. Conditions: none but that it reads at all.
   Readers of the laws' parameters, printed by a program.
   What is read of a draft. No conditions.
   What a draft's list of hosts may hold: the bound that the statement's sizes give. Conditions: none but that it reads at all.
   tannoylaw14.NetworkArrives: the card. No conditions but the card's own. -/
import Derived.Test.YtdiagiflihpidaaDoorQ10
import Derived.Test.YtdiagiflihpidaaDoorQ8
import Derived.Test.YtdiagiflihpidaaDoorRows
import Derived.ChangeSame
import Derived.ChangeVars
import Derived.JoinedOf
import Derived.RowKit
import Derived.ProofKit
import Derived.LaidMore
import Derived.OpenShut
import Derived.Stop.Joined
import Derived.ChangeArms
import Derived.DataReads
import Derived.Carry
import Derived.SevenTiedAt
import Derived.Test.YtdiagiflihpidaaDoorQ9
import Derived.Test.YtdiagiflihpidaaDoorCards
import Derived.Test.YtdiagiflihpidaaDoorTie
import Derived.KernelRfl
namespace Go.Proofs.YtdiagiflihpidaaDoor
open Go Go.EV
set_option maxRecDepth 100000
def Told (hs : List SHost1) (want : List SSent) (f : SFlight) : Prop :=
 f.fWithin = -1 ∧ f.fData.size = 1 ∧ f.fTo.fPort = 80 ∧ ∃ (j : Nat) (w : SSent) (a : Nat) (h : SHost1), num f.fData = (j : Int) ∧ want[j]? = some w ∧ w.ffrom = f.fFrom ∧ w.fto = (a : Int) ∧ hs[a]? = some h ∧ h.fIp = f.fTo.fHost
theorem Told.more {hs : List SHost1} {want : List SSent} {f : SFlight} (h : Told hs want f) {i : Nat} {h0 : SHost1} (hi : hs[i]? = some h0) (w : SSent) : Told (hs.set i (bump h0)) (want ++ [w]) f := by
 obtain ⟨e1, e2, e3, j, v, a, x, e4, e5, e6, e7, e8, e9⟩ := h
 have hj : (want ++ [w])[j]? = some v := by rw [List.getElem?_append_left (List.getElem?_eq_some_iff.1 e5).1]; exact e5
 by_cases hia : i = a
 ·subst hia
  obtain rfl : h0 = x := Option.some.inj (hi.symm.trans e8)
  exact ⟨e1, e2, e3, j, v, i, bump h0, e4, hj, e6, e7, bump_at hi, e9⟩
 ·exact ⟨e1, e2, e3, j, v, a, x, e4, hj, e6, e7, by rw [List.getElem?_set_ne hia]; exact e8, e9⟩
def InvA (k : Nat) (n : SNetwork) (want : List SSent) : Prop :=
 NV n ∧ n.fNats = [] ∧ n.fNow ≤ 100 * (k : Int) ∧ n.fSerial = k ∧ (∀ h, h ∈ n.fHosts → h.fNat = -1 ∧ h.fLose = 0 ∧ h.fDelay ≤ 70 ∧ h.fCount ≤ k) ∧ hostLen n.fHosts = 4 ∧ want.length = k ∧ n.fQueue.length = k ∧
 (∀ f, f ∈ n.fQueue → Told n.fHosts want f) ∧ (∀ f, f ∈ n.fQueue → ∀ h, h ∈ n.fHosts → h.fIp = f.fFrom.fHost → f.fDue ≤ n.fNow + h.fDelay) ∧ (∀ f, f ∈ n.fQueue → f.fDue ≤ 100 * (k : Int) + 70) ∧ n.fQueue.Pairwise Ahead
theorem invA_empty {d : SDraft1} {n : SNetwork} (h : EmptyQ d n) (h1 : d.fNats = []) (h2 : ∀ p, p ∈ d.fHosts → p.fLose = 0) : InvA 0 n [] := by
 obtain ⟨e1, e2, e3, e4, _, e6, _, e8, e9⟩ := h
 have hn : n.fNats = [] := List.length_eq_zero_iff.1 (by rw [e9, h1]; rfl)
 refine ⟨e1, hn, by rw [e2]; simp, by rw [e3]; simp, fun x hx => ?_, e8, rfl, by rw [e4]; rfl, by rw [e4]; simp, by rw [e4]; simp, by rw [e4]; simp, by rw [e4]; simp⟩
 obtain ⟨⟨_, q1, _⟩, q2, q3, _, q4⟩ := e6 x hx
 rw [hn] at q1
 refine ⟨by have := q1.1; have := q1.2; simp at this; omega, ?_, q2, by rw [q3]; simp⟩
 rcases q4 with q4 | ⟨p, hp, q4⟩
 ·exact q4
 ·rw [q4, h2 p hp]; rfl
theorem invA_send {k : Nat} {n m : SNetwork} {want : List SSent} (hi : InvA k n want) (hk : k < 30) {now port : Int} {a t : Nat} {h z : SHost1} (ha : n.fHosts[a]? = some h) (ht : n.fHosts[t]? = some z)
  (h1 : n.fNow ≤ now) (h2 : now ≤ n.fNow + 100) (hs : SendQ n now a port ⟨z.fIp, 80⟩ (strOfNums [wu8 (k : Int)]) h m) (hv : NV m) :
  InvA (k + 1) m (want ++ [⟨(t : Int), ⟨h.fIp, port⟩, strOfNums [wu8 (k : Int)]⟩]) := by
 obtain ⟨i1, i2, i3, i4, i5, i6, i7, i8, i9, i10, i11, i12⟩ := hi
 obtain ⟨c1, c2, c3, c4⟩ := i5 h (List.mem_of_getElem? ha)
 obtain ⟨s1, s2⟩ := num_at hk
 have e := send_open hs (by omega) c2 (by omega) (by omega)
 subst e
 have hmem : ∀ x, x ∈ n.fHosts.set a (bump h) → ∃ y, y ∈ n.fHosts ∧ x.fIp = y.fIp ∧ x.fNat = y.fNat ∧ x.fLose = y.fLose ∧ x.fDelay = y.fDelay ∧ x.fCount ≤ y.fCount + 1 := fun x hx => by
  rcases List.mem_or_eq_of_mem_set hx with hx | rfl
  ·exact ⟨x, hx, rfl, rfl, rfl, rfl, by omega⟩
  ·exact ⟨h, List.mem_of_getElem? ha, rfl, rfl, rfl, rfl, by show h.fCount + 1 ≤ _; omega⟩
 refine ⟨hv, i2, by show now ≤ _; omega, by show n.fSerial + 1 = _; omega, fun x hx => ?_, by show hostLen (n.fHosts.set a (bump h)) = 4; rw [hostLen_set (h' := bump h) ha rfl]; exact i6, by simp [i7], by simp [i8], fun f hf => ?_, fun f hf x hx he => ?_, fun f hf => ?_, ?_⟩
 ·obtain ⟨y, hy, e1, e2, e3, e4, e5⟩ := hmem x hx
  obtain ⟨d1, d2, d3, d4⟩ := i5 y hy
  exact ⟨by omega, by omega, by omega, by omega⟩
 ·have hf : f ∈ n.fQueue ++ [_] := hf
  rcases List.mem_append.1 hf with hf | hf
  ·exact (i9 f hf).more ha _
  ·obtain rfl := List.mem_singleton.1 hf
   have hw : (want ++ [(⟨(t : Int), ⟨h.fIp, port⟩, strOfNums [wu8 (k : Int)]⟩ : SSent)])[k]? = some ⟨(t : Int), ⟨h.fIp, port⟩, strOfNums [wu8 (k : Int)]⟩ := by rw [← i7]; exact List.getElem?_concat_length
   by_cases hat : a = t
   ·subst hat
    obtain rfl : h = z := Option.some.inj (ha.symm.trans ht)
    exact ⟨rfl, s1, rfl, k, _, a, bump h, s2, hw, rfl, rfl, bump_at ha, rfl⟩
   ·exact ⟨rfl, s1, rfl, k, _, t, z, s2, hw, rfl, rfl, by show (n.fHosts.set a (bump h))[t]? = some z; rw [List.getElem?_set_ne hat]; exact ht, rfl⟩
 ·obtain ⟨y, hy, e1, _, _, e4, _⟩ := hmem x hx
  show f.fDue ≤ now + x.fDelay
  have hf : f ∈ n.fQueue ++ [_] := hf
  rcases List.mem_append.1 hf with hf | hf
  ·have := i10 f hf y hy (by rw [← e1]; exact he)
   omega
  ·obtain rfl := List.mem_singleton.1 hf
   have he : x.fIp = h.fIp := he
   have hxh : y = h := by
    have hnd := i1.2.2.2.1.2.1.2
    obtain ⟨j, hj⟩ := List.mem_iff_getElem?.1 hy
    have hja : j = a := (List.getElem?_inj (l := n.fHosts.map place) (by rw [List.length_map]; exact (List.getElem?_eq_some_iff.1 hj).1) hnd).1 (by
     rw [List.getElem?_map, List.getElem?_map, hj, ha]
     show some (y.fNat, y.fIp) = some (h.fNat, h.fIp)
     rw [(i5 y hy).1, c1, ← e1, he])
    subst hja
    exact Option.some.inj (hj.symm.trans ha)
   subst hxh
   show now + y.fDelay ≤ now + x.fDelay
   omega
 ·have hf : f ∈ n.fQueue ++ [_] := hf
  rcases List.mem_append.1 hf with hf | hf
  ·have := i11 f hf; omega
  ·obtain rfl := List.mem_singleton.1 hf
   show now + h.fDelay ≤ _
   omega
 ·show (n.fQueue ++ [_]).Pairwise Ahead
  rw [List.pairwise_append]
  refine ⟨i12, by simp, fun f hf g hg => ?_⟩
  obtain rfl := List.mem_singleton.1 hg
  obtain ⟨_, _, _, j, v, _, _, e4, e5, _⟩ := i9 f hf
  have hj := (List.getElem?_eq_some_iff.1 e5).1
  refine ⟨by show num f.fData < num (strOfNums [wu8 (k : Int)]); rw [s2, e4]; omega, fun he => ?_⟩
  have := i10 f hf h (List.mem_of_getElem? ha) he.symm
  show f.fDue ≤ now + h.fDelay
  omega
theorem mlook_found {α β : Type} {l : List α} {p : α → Bool} {f : α → β} {z : β} (h : (l.findIdx? p).isSome = true) : ∃ e, e ∈ l ∧ p e = true ∧ mlook l p f z = f e := by
 cases hi : l.findIdx? p with
 | none => rw [hi] at h; simp at h
 | some i =>
  obtain ⟨h1, h2, _⟩ := List.findIdx?_eq_some_iff_getElem.1 hi
  refine ⟨l[i], List.getElem_mem h1, h2, ?_⟩
  unfold mlook
  simp only [hi, List.getElem?_eq_getElem h1]
theorem place_uniq {hs : List SHost1} (hnd : (hs.map place).Nodup) {a b : Nat} {h z : SHost1} {nat : Int} {ip : ByteArray} (ha : hs[a]? = some h) (hb : hs[b]? = some z) (h1 : Here nat ip h) (h2 : Here nat ip z) : a = b :=
 (List.getElem?_inj (l := hs.map place) (by rw [List.length_map]; exact (List.getElem?_eq_some_iff.1 ha).1) hnd).1 (by
  rw [List.getElem?_map, List.getElem?_map, ha, hb]
  show some (h.fNat, h.fIp) = some (z.fNat, z.fIp)
  rw [h1.1, h1.2, h2.1, h2.2])
theorem idx_at {x : Int} {n : Nat} (hx : 0 ≤ x ∧ x ≤ 255) (hn : 1 ≤ n) : ∃ t : Nat, Int.tmod (wi64 x) (n : Int) = (t : Int) ∧ t < n := by
 rw [wi64_id (by omega) (by omega)]
 have h1 := Int.tmod_nonneg (n : Int) hx.1
 have h2 := (tmod_in x (m := (n : Int)) (by omega)).2
 exact ⟨(Int.tmod x (n : Int)).toNat, by omega, by omega⟩
end Go.Proofs.YtdiagiflihpidaaDoor
namespace Go.Proofs.YtdiagiflihpidaaDoor
open Go Go.EV
set_option maxRecDepth 100000
theorem ok11 (d : SDraft1) (l : List SSending) (hd : DraftW d) (hl : ∀ x, x ∈ l → SendingOk x) (hsz : d.fHosts.length ≤ 35184372088832) : SOk (s11 d l) (fun r => r = true) := by
 show Ok (g11 d l) _
 unfold g11
 refine Ok.call t37 fun r hr => Ok.brF (by simp [hr]) ?_
 refine Ok.call (t38 hd hsz) fun d' hd' => ?_
 obtain ⟨c1, c2, c3⟩ := hd'
 refine Ok.call (t39 c1) fun n hn => ?_
 have h0 := invA_empty hn c2 c3
 have hN : (if (30 : Int) < (l.length : Int) then (30 : Int) else (l.length : Int)) = ((min l.length 30 : Nat) : Int) := by split <;> omega
 have hN30 : min l.length 30 ≤ 30 := by omega
 have hNl : min l.length 30 ≤ l.length := by omega
 have hLn : (l.take (min l.length 30)).length = min l.length 30 := by rw [List.length_take]; omega
 have hLm : ∀ x, x ∈ l.take (min l.length 30) → SendingOk x := fun x hx => hl x (List.mem_of_mem_take hx)
 simp only [mlen_eq, mlenn_eq, hN, Int.toNat_natCast]
 generalize hL : l.take (min l.length 30) = L at *
 generalize min l.length 30 = N at *
 refine Ok.chk (by simp; omega) (Ok.re (Ok.gh (Ok.bind2 (R := Sum.elim (fun _ => False) (fun e => InvA N ⟨e.2.1, e.2.2.1, e.2.2.2.1, e.2.2.2.2.1, e.2.2.2.2.2⟩ e.1)) ?_ (fun e he => he.elim) fun e he => ?_)))
 ·refine Ok.scan N (by omega) (fun k y => y.2.2.2.2.2.2 = (k : Int) ∧ InvA k ⟨y.1, y.2.1, y.2.2.1, y.2.2.2.1, y.2.2.2.2.1⟩ y.2.2.2.2.2.1) ⟨rfl, h0⟩ (fun k y hI hlt => ?_) fun y hI => ?_
  ·obtain ⟨y1, y2, y3, y4, y5, y6, y7⟩ := y
   obtain ⟨rfl, i0⟩ := hI
   have i0 : InvA k ⟨y1, y2, y3, y4, y5⟩ y6 := i0
   obtain ⟨i1, i2, i3, i4, i5, i6, i7, i8, i9⟩ := id i0
   have i3 : y4 ≤ 100 * (k : Int) := i3
   have i4 : y5 = (k : Int) := i4
   have i6 : hostLen y1 = 4 := i6
   have hk : k < L.length := by omega
   obtain ⟨x, hx, hx'⟩ := get_lt hk
   obtain ⟨p1, p2, p3, p4⟩ := hLm x (List.mem_of_getElem? hx')
   have m1 := tmod_in x.fAfter (m := 100) (by omega)
   have m2 := Int.tmod_nonneg 100 p4.1
   have hy4 : 0 ≤ y4 := i1.2.1.1
   have hnow : wi64 (y4 + wi64 (Int.tmod x.fAfter 100)) = y4 + Int.tmod x.fAfter 100 := by
    rw [wi64_id (n := Int.tmod x.fAfter 100) (by omega) (by omega), wi64_id (by omega) (by omega)]
   have hport : wi64 ((5000 : Int) + wi64 x.fPort) = 5000 + x.fPort := by
    rw [wi64_id (n := x.fPort) (by have := p2.1; omega) (by have := p2.2; omega), wi64_id (by have := p2.1; omega) (by have := p2.2; omega)]
   have hnx := wi64_nat (n := 40) (k := k) (by omega) (by omega)
   have hlen : 1 ≤ y1.length := i1.1.1
   obtain ⟨t, ht, htl⟩ := idx_at (x := x.fTo) p3 hlen
   obtain ⟨a, ha, hal⟩ := idx_at (x := x.fHost) p1 hlen
   have hck : (!((y1.length : Int) == 0)) = true := by simp only [Bool.not_eq_true', beq_eq_false_iff_ne, ne_eq]; omega
   refine Ok.brT (by simp; omega) (Ok.row (by simp) hx ?_)
   simp only [hnow, hport, ht, ha, Int.toNat_natCast, hnx]
   obtain ⟨z, hz⟩ : ∃ z, y1[t]? = some z := ⟨y1[t], List.getElem?_eq_getElem htl⟩
   obtain ⟨h, hh⟩ : ∃ h, y1[a]? = some h := ⟨y1[a], List.getElem?_eq_getElem hal⟩
   refine Ok.chk hck (Ok.chk hck (Ok.row (by simp) hz ?_))
   have harg : SendArg ⟨y1, y2, y3, y4, y5⟩ (y4 + Int.tmod x.fAfter 100) a (5000 + x.fPort) ⟨z.fIp, 80⟩ (strOfNums [wu8 (k : Int)]) h := by
    refine ⟨⟨by show y4 ≤ _; omega, by omega⟩, hh, ⟨by have := p2.1; omega, by have := p2.2; omega⟩, ⟨⟨?_, ?_⟩, by simp, by simp⟩, by rw [(num_at (by omega)).1]; simp, by show y5 < _; omega, ?_⟩
    ·exact (i1.2.2.2.1.2.1.1 z (List.mem_of_getElem? hz)).1
    ·show hostLen y1 = 4 ∨ hostLen y1 = 16
     exact .inl i6
    ·have := (i5 h (List.mem_of_getElem? hh)).2.2.2
     omega
   refine Ok.call (t40 i1 harg) fun m hm => ?_
   obtain ⟨s1, s2⟩ := hm
   obtain ⟨v1, v2, v3, v4⟩ := send_valid i1 harg s1
   have hml : (m.1.fHosts.length : Int) = (y1.length : Int) := by rw [v3]; simp
   refine Ok.cnd (R := fun c => c = false) (Ok.brF (by simp [s2]) (Ok.done (by simp [hml]))) fun c hc => Ok.brF hc ?_
   have i7 : y6.length = k := i7
   refine Ok.row (by simp) hh (Ok.app (by simp [i7]; omega) (Ok.gh (Ok.gh (Ok.done ⟨rfl, ?_⟩))))
   exact invA_send i0 (by omega) hh hz (by show y4 ≤ _; omega) (by show _ ≤ y4 + 100; omega) s1 v1
  ·obtain ⟨y1, y2, y3, y4, y5, y6, y7⟩ := y
   obtain ⟨rfl, i0⟩ := hI
   exact Ok.brF (by simp; omega) (Ok.done i0)
 ·obtain ⟨w, hs, ns, q, now, serial⟩ := e
  have he : InvA N ⟨hs, ns, q, now, serial⟩ w := he
  obtain ⟨i1, i2, i3, i4, i5, i6, i7, i8, i9, i10, i11, i12⟩ := he
  have i3 : now ≤ 100 * (N : Int) := i3
  have i8 : q.length = N := i8
  have hnd : (hs.map place).Nodup := i1.2.2.2.1.2.1.2
  refine Ok.call (t41 i1 (by show now ≤ _; omega) (by omega)) fun r1 h1 => ?_
  obtain ⟨got, o, g1, rfl⟩ := h1
  obtain ⟨g2, g3, g4⟩ := runs_all g1 i2 hnd (fun f hf => by
   obtain ⟨e1, _, _, j, v, a, x, _, _, _, _, e8, e9⟩ := i9 f hf
   have := i11 f hf
   exact ⟨e1, by omega, a, x, e8, (i5 x (List.mem_of_getElem? e8)).1, e9⟩) i12
  have g2 : got.length = N := by rw [← i8]; exact g2
  refine Ok.cnd (R := fun c => c = false) (Ok.brF (by simp) (Ok.done (by simp [g2, i7]))) fun c hc => Ok.brF hc (Ok.opr rfl ?_)
  refine Ok.bind2 (R := Sum.elim (fun _ => False) (fun _ => True)) ?_ (fun e he => he.elim) fun e he => Ok.done rfl
  refine Ok.scan N (by omega) (fun k y => y.2 = (k : Int) ∧ ∀ e, e ∈ y.1 → ∃ (j : Nat) (d : SDelivery), j < k ∧ got[j]? = some d ∧ d.fFrom.fHost = e.fk ∧ e.fv = num d.fData) ⟨rfl, by simp⟩ (fun k y hI hlt => ?_) fun y hI => ?_
  ·obtain ⟨y1, y2⟩ := y
   obtain ⟨rfl, j1⟩ := hI
   have j1 : ∀ e, e ∈ y1 → ∃ (j : Nat) (d : SDelivery), j < k ∧ got[j]? = some d ∧ d.fFrom.fHost = e.fk ∧ e.fv = num d.fData := j1
   have hk : k < got.length := by omega
   obtain ⟨x, hx, hx'⟩ := get_lt hk
   obtain ⟨f, f1, f2, f3, f4, a, z, f5, f6, f7⟩ := g3 x (List.mem_of_getElem? hx')
   obtain ⟨e1, e2, e3, j, v, b, u, e4, e5, e6, e7, e8, e9⟩ := i9 f f1
   have hab : a = b := place_uniq hnd f6 e8 f7 ⟨(i5 u (List.mem_of_getElem? e8)).1, e9⟩
   have hj : j < w.length := (List.getElem?_eq_some_iff.1 e5).1
   have hb : bAt x.fData 0 = (j : Int) := by rw [f4]; exact e4
   have hbw : wi64 (j : Int) = (j : Int) := wi64_id (by omega) (by omega)
   have hsz1 : x.fData.size = 1 := by rw [f4]; exact e2
   have hnx := wi64_nat (n := 40) (k := k) (by omega) (by omega)
   refine Ok.brT (by simp; omega) (Ok.row (by simp) hx ?_)
   simp only [hb, hbw, hsz1, hnx, Int.toNat_natCast, Nat.zero_add]
   refine Ok.cnd (R := fun c => c = false) (Ok.brF (by simp) (Ok.chk (by simp) (Ok.done (by simp; omega)))) fun c hc => Ok.brF hc ?_
   refine Ok.chk (by simp) (Ok.chk (by simp; omega) (Ok.row rfl e5 (Ok.opr rfl ?_)))
   have hfr : x.fFrom = v.ffrom := f2.trans e6.symm
   refine Ok.cnd (R := fun c => c = false) ?_ fun c hc => Ok.brF hc (Ok.chk (by simp) (Ok.opr rfl (Ok.done ⟨rfl, fun e he => ?_⟩)))
   ·refine Ok.brF (by simp [f5, e7, hab]) (Ok.brF (by rw [eA_iff.2 hfr]; rfl) (Ok.brF (by simp [f3, e3]) (Ok.br (fun hso => Ok.chk (by simp) (Ok.done ?_)) fun _ => Ok.done rfl)))
    obtain ⟨e, m1, m2, m3⟩ := mlook_found (f := fun x : SEnt92 => x.fv) (z := (0 : Int)) hso
    obtain ⟨j', d', k1, k2, k3, k4⟩ := j1 e m1
    rw [m3, k4]
    obtain ⟨l1, rfl⟩ := List.getElem?_eq_some_iff.1 k2
    have hx0 := hx'
    obtain ⟨l2, rfl⟩ := List.getElem?_eq_some_iff.1 hx'
    have := List.pairwise_iff_getElem.1 g4 j' k l1 l2 k1 (by rw [k3]; exact (of_decide_eq_true m2).symm)
    have hn : num (got[k]).fData = (j : Int) := hb
    simp only [decide_eq_false_iff_not]
    omega
   ·rcases mput_mem he with rfl | he
    ·exact ⟨k, x, by omega, hx', rfl, hb.symm⟩
    ·obtain ⟨j', d', k1, k2⟩ := j1 e he
     exact ⟨j', d', by omega, k2⟩
  ·obtain ⟨y1, y2⟩ := y
   obtain ⟨rfl, j1⟩ := hI
   exact Ok.brF (by simp; omega) (Ok.done trivial)
end Go.Proofs.YtdiagiflihpidaaDoor
namespace Go.Proofs.YtdiagiflihpidaaDoor
open Go Go.EV
set_option maxRecDepth 100000
theorem own : ownKnob Tryd.prog.godebug = none := by kernel_rfl
theorem gKeys : Tryd.prog.globalNamed "tannoy/nat.keys" = some 0 := by kernel_rfl
theorem tKeys : (Tryd.prog.globals[0]?).map (·.type) = some 155 := by kernel_rfl
theorem cells154 : Tryd.prog.cellsOf 154 = 1 := by kernel_rfl
theorem cells155 : Tryd.prog.cellsOf 155 = 4 := by kernel_rfl
theorem und155 : Tryd.prog.underlying 155 = some (.array 4 154) := by kernel_rfl
theorem und154 : Tryd.prog.underlying 154 = some (.func #[27] #[27] false) := by kernel_rfl
abbrev laid1 : List (String × DataW Unit) := [("tannoy/nat.keys", Rows.laid_tannoy_nat_keys)]
theorem door_met (os : Os) (args : Array Value) : laidMetH Tryd.prog laid1 ((World.doorLaid Tryd.prog 14 os).forCall (fun _ _ => 0) ⟨#[], args, []⟩).memory :=
 laidMetH_of_parts3 (fuel := 8) (laidMet_of_run' 8 (by kernel_rfl) (by kernel_rfl)) (by kernel_rfl) (by kernel_rfl)
theorem of_laid {W : World} (h : laidMetH Tryd.prog laid1 W) : W.cell? ⟨0, 0, none⟩ = some .nilFunc ∧ W.cell? ⟨0, 1, none⟩ = some (.func (.func 146) #[] #[]) ∧
  W.cell? ⟨0, 2, none⟩ = some (.func (.func 147) #[] #[]) ∧ W.cell? ⟨0, 3, none⟩ = some (.func (.func 148) #[] #[]) := by
 obtain ⟨g, t, cs, fuel, p, hg, ht, hv, hd⟩ := h.funcs (List.mem_singleton.2 rfl)
 obtain rfl := Option.some.inj (gKeys.symm.trans hg)
 obtain rfl := Option.some.inj (tKeys.symm.trans ht)
 have hd' : DataW.trod (funcToken Tryd.prog) Tryd.prog W 0 (fun _ => true) true fuel 155 cs.toList = some (.agg [.nil, .held [116, 97, 110, 110, 111, 121, 47, 110, 97, 116, 46, 107, 101, 121, 115, 36, 49], .held [116, 97, 110, 110, 111, 121, 47, 110, 97, 116, 46, 107, 101, 121, 115, 36, 50], .held [116, 97, 110, 110, 111, 121, 47, 110, 97, 116, 46, 107, 101, 121, 115, 36, 51]], p) := hd
 obtain ⟨xs, m, rfl, hx, hl, hn, hel⟩ := DataW.trod_array und155 hd'
 rw [cells155] at hl
 obtain ⟨v0, v1, v2, v3, hcs⟩ : ∃ v0 v1 v2 v3, cs.toList = [v0, v1, v2, v3] := by
  match hc : cs.toList, hl with
  | [a, b, c, d], _ => exact ⟨a, b, c, d, rfl⟩
 obtain ⟨x0, x1, x2, x3, hxs⟩ : ∃ x0 x1 x2 x3, xs = [x0, x1, x2, x3] := by
  match xs, hn with
  | [a, b, c, d], _ => exact ⟨a, b, c, d, rfl⟩
 subst hxs
 simp only [Prod.mk.injEq, DataW.agg.injEq, List.map_cons, List.map_nil, List.cons.injEq, and_true] at hx
 obtain ⟨⟨h0, h1, h2, h3⟩, -⟩ := hx
 have e0 := hel 0 (by omega)
 have e1 := hel 1 (by omega)
 have e2 := hel 2 (by omega)
 have e3 := hel 3 (by omega)
 rw [cells154, hcs] at e0 e1 e2 e3
 simp at e0 e1 e2 e3
 have k0 : v0 = .nilFunc := by
  cases m with
  | zero => simp [DataW.trod] at e0
  | succ m =>
   cases v0 <;> simp [DataW.trod] at e0 <;> first | rfl | (subst e0; simp at h0)
 have k1 : v1 = .func (.func 146) #[] #[] := func_of_trod (f0 := 146) (q := x1.2) und154 (by kernel_rfl) (e1.trans (by rw [h1]))
 have k2 : v2 = .func (.func 147) #[] #[] := func_of_trod (f0 := 147) (q := x2.2) und154 (by kernel_rfl) (e2.trans (by rw [h2]))
 have k3 : v3 = .func (.func 148) #[] #[] := func_of_trod (f0 := 148) (q := x3.2) und154 (by kernel_rfl) (e3.trans (by rw [h3]))
 have ec : cs = #[v0, v1, v2, v3] := Array.toList_inj.1 (by rw [hcs])
 subst ec
 have c := World.var?_cell gKeys hv
 exact ⟨by rw [c 0, k0]; rfl, by rw [c 1, k1]; rfl, by rw [c 2, k2]; rfl, by rw [c 3, k3]; rfl⟩
def gh0 (w : World) : Gh := { loc := fun _ => none, own := fun _ => none, lim := fun B => match w.heap[B]? with | some (.cells cs _ _) => cs.size | _ => 0 }
theorem gh0_lim {w : World} {B o : Nat} {v : Value} (h : cellAt w B o = some v) : o < (gh0 w).lim B := by
 unfold cellAt World.cell? at h
 simp only [gh0]
 cases hb : w.heap[B]? with
 | none => simp [hb] at h
 | some x =>
  cases x with
  | cells cs t fz =>
   simp only [hb] at h
   simp only
   exact (Array.getElem?_eq_some_iff.1 (by simpa using h)).1
  | _ => simp [hb] at h
theorem globOk {w : World} (h : laidMetH Tryd.prog laid1 w) : GlobOk GG (gh0 w) w := fun g cells hg => by
 unfold GG at hg
 split at hg
 ·rename_i e
  subst e
  simp only [Option.some.injEq] at hg
  subst hg
  obtain ⟨c0, c1, c2, c3⟩ := of_laid h
  refine .snap _ 0 0 (fun i => match i with | 0 => .nilFunc | 1 => .func (.func 146) #[] #[] | 2 => .func (.func 147) #[] #[] | _ => .func (.func 148) #[] #[]) (fun i c hc => ?_) (fun i c hc => ?_)
  ·have key : ∀ (o : Nat) (v : Value), w.cell? ⟨0, o, none⟩ = some v → o < (gh0 w).lim 0 ∧ cellAt w 0 o = some v := fun o v hv => ⟨gh0_lim (v := v) hv, hv⟩
   match i, hc with
   | 0, _ => exact key _ _ c0
   | 1, _ => exact key _ _ c1
   | 2, _ => exact key _ _ c2
   | 3, _ => exact key _ _ c3
   | n + 4, hc => simp at hc
  ·match i, hc with
   | 0, hc => simp at hc; subst hc; exact .nilf
   | 1, hc => simp at hc; subst hc; exact .fn 146 [] [] [] [] rfl rfl (by simp) (by simp)
   | 2, hc => simp at hc; subst hc; exact .fn 147 [] [] [] [] rfl rfl (by simp) (by simp)
   | 3, hc => simp at hc; subst hc; exact .fn 148 [] [] [] [] rfl rfl (by simp) (by simp)
   | n + 4, hc => simp at hc
 ·simp at hg
theorem keptBut_of_grow {w w' : World} {γ' : Gh} (h : Grow (gh0 w) w γ' w') (may : MemPlace → Prop) : w.keptBut w' may := by
 refine ⟨h.os, h.output, fun i hi => ?_⟩
 have := (h.free i hi rfl).1
 rw [this]
 cases w.heap[i]? with
 | none => trivial
 | some x =>
  cases x with
  | cells c t fr => exact ⟨rfl, rfl, rfl, fun _ _ => rfl⟩
  | map es clock => exact .inr ⟨rfl, rfl⟩
  | _ => rfl
end Go.Proofs.YtdiagiflihpidaaDoor
namespace Go.Proofs.YtdiagiflihpidaaDoor
open Go Go.EV Go.ChangeShapes
set_option maxRecDepth 100000
def CellsD (W : World) (l : List V) (cs : List Value) : Prop := cs.length = l.length ∧ ∀ (i : Nat) (c : V) (v : Value), l[i]? = some c → cs[i]? = some v → RepD (gh0 W).lim W c v
theorem CellsD.one {W : World} {c : V} {v : Value} (h : RepD (gh0 W).lim W c v) : CellsD W [c] [v] := ⟨rfl, fun i c' v' hc hv => by
 cases i with
 | zero => simp at hc hv; subst hc; subst hv; exact h
 | succ i => simp at hc⟩
theorem CellsD.append {W : World} {l m : List V} {cs ds : List Value} (h : CellsD W l cs) (k : CellsD W m ds) : CellsD W (l ++ m) (cs ++ ds) :=
  ⟨by simp [h.1, k.1], fun i c v hc hv => by
    by_cases hi : i < l.length
    · rw [List.getElem?_append_left hi] at hc
      rw [List.getElem?_append_left (by rw [h.1]; exact hi)] at hv
      exact h.2 i c v hc hv
    · rw [List.getElem?_append_right (by omega)] at hc
      rw [List.getElem?_append_right (by rw [h.1]; omega), h.1] at hv
      exact k.2 _ c v hc hv⟩
def Rd (t : TypeId) {α : Type} (c : α → List V) (I : α → Prop) : Prop :=
 ∀ (H : Type) (enc : TypeId × Value → H) (W : World) (fuel : Nat) (cs : List Value) (x : DataW H × List MemPlace), DataW.trod enc Tryd.prog W 0 (fun _ => true) true fuel t cs = some x → ∃ a : α, I a ∧ CellsD W (c a) cs
theorem rdInt {t : TypeId} {k : IntKind} (ht : Tryd.prog.underlying t = some (.int k)) : Rd t (fun n : Int => [.int k n]) (fun n => (Lit.int k n).wf = true) := fun H enc W fuel cs x h => by
 obtain ⟨n, rfl, _, hw⟩ := DataW.trod_int ht h
 exact ⟨n, hw, .one (.int k n)⟩
theorem rdBool {t : TypeId} (ht : Tryd.prog.underlying t = some .bool) : Rd t (fun b : Bool => [.bool b]) (fun _ => True) := fun H enc W fuel cs x h => by
 cases fuel with
 | zero => simp [DataW.trod] at h
 | succ n =>
  unfold DataW.trod at h
  rw [ht] at h
  split at h <;> first | exact ⟨_, trivial, .one (.bool _)⟩ | simp_all
theorem fld {H : Type} {enc : TypeId × Value → H} {W : World} {n : Nat} {fs : Array Field} {cs : List Value} {xs : List (DataW H × List MemPlace)} {t o z : Nat} {α : Type} {c : α → List V} {I : α → Prop}
  (hel : ∀ (i : Nat) (f : Field), fs[i]? = some f → DataW.trod enc Tryd.prog W 0 (fun _ => true) true n f.type ((cs.drop f.offset).take (Tryd.prog.cellsOf f.type)) = xs[i]?) (hn : xs.length = fs.size) (i : Nat)
  (hf : (fs[i]?).map (fun f => (f.type, f.offset)) = some (t, o)) (hz : Tryd.prog.cellsOf t = z) (r : Rd t c I) : ∃ a : α, I a ∧ CellsD W (c a) ((cs.drop o).take z) := by
 obtain ⟨f, h1, h2⟩ := Option.map_eq_some_iff.1 hf
 simp only [Prod.mk.injEq] at h2
 obtain ⟨rfl, rfl⟩ := h2
 have hi : i < xs.length := by rw [hn]; exact (Array.getElem?_eq_some_iff.1 h1).1
 have := hel i f h1
 rw [List.getElem?_eq_getElem hi, hz] at this
 exact r H enc W n _ _ this
theorem cells_at {W : World} {a : Addr} {z : Nat} {ci : List Value} (h : W.cells? 0 a z = some ci) : ci.length = z ∧ ∀ r, r < z → W.cell? (a.add r) = ci[r]? := by
 unfold World.cells? at h
 rw [if_pos (Nat.zero_le _)] at h
 exact ⟨by simpa using mapM_some_length h, fun r hr => mapM_some_get h r r (by simp [hr])⟩
theorem spot_of {W : World} {a : Addr} {z q : Nat} {ci : List Value} (hz : 0 < z) (h : W.cells? 0 (a.add (q * z)) z = some ci) (hq : q = 0) : a.spot = none := by
 obtain ⟨h1, h2⟩ := cells_at h
 have h3 := h2 0 hz
 have e : (a.add (q * z)).add 0 = a := by subst hq; simp [Addr.add]
 rw [e, List.getElem?_eq_getElem (by omega)] at h3
 exact World.cell?_spot h3
theorem rdSlice {t e z : Nat} {α : Type} {ty : Ty α} {I : α → Prop} (ht : Tryd.prog.underlying t = some (.slice e)) (hz : Tryd.prog.cellsOf e = z) (hpos : 0 < z) (hlen : ∀ a, (ty.c a).length = z) (r : Rd e ty.c I) :
  Rd t (fun l : List α => [.sl false z (l.map ty.c)]) (fun l => ∀ a, a ∈ l → I a) := fun H enc W fuel cs x h => by
 rcases DataW.trod_slice ht h with ⟨rfl, -⟩ | ⟨a, len, cap, elems, rest, n, rfl, rfl, -, -, hlc, -, hel, hE, hR, -⟩
 ·exact ⟨[], by simp, .one (.slNil false z)⟩
 rw [hz] at hE hR
 have build : ∀ m, m ≤ len → ∃ l : List α, l.length = m ∧ (∀ a, a ∈ l → I a) ∧ ∀ i x, l[i]? = some x → ∃ ci, W.cells? 0 (a.add (i * z)) z = some ci ∧ CellsD W (ty.c x) ci := by
  intro m
  induction m with
  | zero => intro _; exact ⟨[], rfl, by simp, by simp⟩
  | succ m ih =>
   intro hm
   obtain ⟨l, l1, l2, l3⟩ := ih (by omega)
   have := hE m (by omega)
   rw [List.getElem?_eq_getElem (by omega)] at this
   obtain ⟨ci, hci, htr⟩ := Option.bind_eq_some_iff.1 this
   obtain ⟨y, hy, hcd⟩ := r H enc W n ci _ htr
   refine ⟨l ++ [y], by simp [l1], fun b hb => ?_, fun i x hx => ?_⟩
   ·rcases List.mem_append.1 hb with hb | hb
    ·exact l2 b hb
    ·rw [List.mem_singleton.1 hb]; exact hy
   ·by_cases hi : i < l.length
    ·rw [List.getElem?_append_left hi] at hx; exact l3 i x hx
    ·rw [List.getElem?_append_right (by omega)] at hx
     have hi2 : i - l.length = 0 := by
      have := (List.getElem?_eq_some_iff.1 hx).1
      simp at this; omega
     rw [hi2] at hx; simp at hx; subst hx
     have : i = m := by omega
     subst this
     exact ⟨ci, hci, hcd⟩
 obtain ⟨l, hl, hI, hc⟩ := build len (Nat.le_refl _)
 refine ⟨l, hI, .one ?_⟩
 by_cases hcap : cap = 0
 ·have : l = [] := List.length_eq_zero_iff.1 (by omega)
  subst this
  have h0 : len = 0 := by simpa using hl.symm
  subst h0; subst hcap
  exact .slNil false z (some a)
 have hspot : a.spot = none := by
  by_cases h0 : len = 0
  ·obtain ⟨r1, r2⟩ := hR rfl
   have := r2 0 (by omega)
   rw [List.getElem?_eq_getElem (by omega)] at this
   obtain ⟨ci, hci, _⟩ := Option.bind_eq_some_iff.1 this
   exact spot_of hpos (q := len + 0) hci (by omega)
  ·have := hE 0 (by omega)
   rw [List.getElem?_eq_getElem (by omega)] at this
   obtain ⟨ci, hci, _⟩ := Option.bind_eq_some_iff.1 this
   exact spot_of hpos hci rfl
 obtain ⟨B, o, sp⟩ := a
 simp only at hspot
 subst hspot
 have hsz : ∀ q, q ∈ l.map ty.c → q.length = z := fun q hq => by
  obtain ⟨y, _, rfl⟩ := List.mem_map.1 hq; exact hlen y
 have key : ∀ (i : Nat) (c : V), (l.map ty.c).flatten[i]? = some c → ∃ v, cellAt W B (o + i) = some v ∧ RepD (gh0 W).lim W c v := fun i c hci => by
  have e1 : i = (i / z) * z + i % z := by rw [Nat.mul_comm]; exact (Nat.div_add_mod i z).symm
  have hm := Nat.mod_lt i hpos
  rw [e1, flatten_get _ hsz _ _ hm, List.getElem?_map] at hci
  cases hx : l[i / z]? with
  | none => rw [hx] at hci; simp at hci
  | some y =>
   rw [hx] at hci
   simp only [Option.map_some, Option.bind_some] at hci
   obtain ⟨ci, k1, k2⟩ := hc _ _ hx
   obtain ⟨k3, k4⟩ := cells_at k1
   have k5 := k4 (i % z) hm
   have hv : ci[i % z]? = some (ci[i % z]'(by omega)) := List.getElem?_eq_getElem _
   refine ⟨_, ?_, k2.2 _ _ _ hci hv⟩
   rw [hv] at k5
   rw [Addr.add_eq, Addr.add_eq] at k5
   unfold cellAt
   rw [show o + i = o + (i / z) * z + i % z by omega]
   exact k5
 have fin := RepD.sl (lim := (gh0 W).lim) (w := W) false z (l.map ty.c) B o cap (fun i => (cellAt W B (o + i)).getD default) (by simp; omega) hsz
  (fun i c hci => by obtain ⟨v, v1, v2⟩ := key i c hci; rw [v1]; exact ⟨gh0_lim v1, rfl⟩) (fun i c hci => by obtain ⟨v, v1, v2⟩ := key i c hci; rw [v1]; exact v2)
 rw [List.length_map, hl] at fin
 exact fin
noncomputable def fsOf (t : TypeId) : Array Field := match Tryd.prog.underlying t with | some (.struct f) => f | _ => #[]
theorem open_agg {H : Type} {enc : TypeId × Value → H} {W : World} {t : TypeId} {α : Type} {c : α → List V} {I : α → Prop} (r : Rd t c I) {v : Value} {d : DataW H} {p : List MemPlace} (hv : ∃ cs, v = .agg cs)
  (h : DataW.Trod enc Tryd.prog W 0 (fun _ => true) true t v d p) : ∃ a : α, I a ∧ Rep (gh0 W) W (ofL []) uTop (.agg (c a)) v := by
 obtain ⟨cs, rfl⟩ := hv
 obtain ⟨fuel, hf⟩ := h
 obtain ⟨a, hi, hc⟩ := r H enc W fuel _ _ hf
 refine ⟨a, hi, ?_⟩
 have := Rep.agg (γ := gh0 W) (w := W) (bs := ofL []) (u := uTop) (c a) cs.toList hc.1 (fun i x y hx hy => .data (hc.2 i x y hx hy))
 simpa using this
theorem agg_struct {W : World} {base : Nat} {t : TypeId} {v : Value} {fs : Array Field} (ht : Tryd.prog.underlying t = some (.struct fs)) (h : Value.okWide Tryd.prog W .any base t v) : ∃ cs, v = .agg cs := by
 simp only [Value.okWide, ht] at h
 obtain ⟨cs, h1, _⟩ := h
 exact ⟨cs, h1⟩
theorem laidOut : laidOutB Tryd.prog = true := by kernel_rfl
theorem below_of_grow {w w' : World} {γ' : Gh} (h : Grow (gh0 w) w γ' w') : RowKit.Below w.heap.size w w' :=
 ⟨h.os, h.tape, h.output, h.size, fun k hk => (h.free k hk rfl).1⟩
theorem open_one {H : Type} {enc : TypeId × Value → H} {W : World} {t : TypeId} {α : Type} {c : α → List V} {I : α → Prop} (r : Rd t c I) {v : Value} {d : DataW H} {p : List MemPlace} (hv : v.cells = #[v])
  (h : DataW.Trod enc Tryd.prog W 0 (fun _ => true) true t v d p) : ∃ a : α, I a ∧ ∀ x, c a = [x] → Rep (gh0 W) W (ofL []) uTop x v := by
 obtain ⟨fuel, hf⟩ := h
 rw [hv] at hf
 obtain ⟨a, hi, hc⟩ := r H enc W fuel _ _ hf
 refine ⟨a, hi, fun x hx => ?_⟩
 rw [hx] at hc
 exact .data (hc.2 0 x v rfl rfl)
theorem slice_one {W : World} {base : Nat} {t e : TypeId} {v : Value} (ht : Tryd.prog.underlying t = some (.slice e)) (h : Value.okWide Tryd.prog W .any base t v) : v.cells = #[v] := by
 obtain ⟨a, l, c, rfl⟩ := WideShapes.okWide_slice ht h
 rfl
section
variable {H : Type} {enc : TypeId × Value → H} {P : Program} {w : World} {base : Nat} {spare : Nat → Bool} {held : Bool}
end
theorem w8_iff {n : Int} (h : (Lit.int .u8 n).wf = true) : 0 ≤ n ∧ n ≤ 255 := by
 simp [Lit.wf, IntKind.min, IntKind.max, IntKind.signed, IntKind.bits] at h; omega
theorem w16_iff {n : Int} (h : (Lit.int .u16 n).wf = true) : 0 ≤ n ∧ n ≤ 65535 := by
 simp [Lit.wf, IntKind.min, IntKind.max, IntKind.signed, IntKind.bits] at h; omega
end Go.Proofs.YtdiagiflihpidaaDoor
namespace Go.Proofs.YtdiagiflihpidaaDoor
open Go Go.EV
set_option maxRecDepth 100000
theorem u4 : Tryd.prog.underlying 4 = some .bool := by kernel_rfl
theorem z4 : Tryd.prog.cellsOf 4 = 1 := by kernel_rfl
theorem u72 : Tryd.prog.underlying 72 = some (.struct (fsOf 72)) := by kernel_rfl
theorem z72 : Tryd.prog.cellsOf 72 = 3 := by kernel_rfl
theorem u68 : Tryd.prog.underlying 68 = some (.slice 25) := by kernel_rfl
theorem z68 : Tryd.prog.cellsOf 68 = 1 := by kernel_rfl
theorem u25 : Tryd.prog.underlying 25 = some (.struct (fsOf 25)) := by kernel_rfl
theorem z25 : Tryd.prog.cellsOf 25 = 6 := by kernel_rfl
theorem u5 : Tryd.prog.underlying 5 = some (.int .u8) := by kernel_rfl
theorem z5 : Tryd.prog.cellsOf 5 = 1 := by kernel_rfl
theorem u22 : Tryd.prog.underlying 22 = some (.int .u16) := by kernel_rfl
theorem z22 : Tryd.prog.cellsOf 22 = 1 := by kernel_rfl
theorem u23 : Tryd.prog.underlying 23 = some (.slice 126) := by kernel_rfl
theorem z23 : Tryd.prog.cellsOf 23 = 1 := by kernel_rfl
theorem u126 : Tryd.prog.underlying 126 = some (.struct (fsOf 126)) := by kernel_rfl
theorem z126 : Tryd.prog.cellsOf 126 = 4 := by kernel_rfl
theorem ln4 {α : Type} {l : List α} (h : l.length = 4) : ∃ v0 v1 v2 v3, l = [v0, v1, v2, v3] := by match l, h with | [v0, v1, v2, v3], _ => exact ⟨v0, v1, v2, v3, rfl⟩
def c126 (x : SMove) : List V := [.int .u8 x.fWhat, .int .u8 x.fFrom, .int .u8 x.fTo, .int .u16 x.fAfter]
def Ok126 (x : SMove) : Prop := (Lit.int .u8 x.fWhat).wf = true ∧ (Lit.int .u8 x.fFrom).wf = true ∧ (Lit.int .u8 x.fTo).wf = true ∧ (Lit.int .u16 x.fAfter).wf = true
theorem rd126 : Rd 126 c126 Ok126 := fun H enc W fuel cs x h => by
 obtain ⟨xs, m, rfl, -, hl, hn, hel⟩ := DataW.trod_struct u126 h
 rw [z126] at hl
 obtain ⟨v0, v1, v2, v3, rfl⟩ := ln4 hl
 obtain ⟨a0, i0, k0⟩ := fld hel hn 0 (t := 5) (o := 0) (by kernel_rfl) z5 (rdInt u5)
 obtain ⟨a1, i1, k1⟩ := fld hel hn 1 (t := 5) (o := 1) (by kernel_rfl) z5 (rdInt u5)
 obtain ⟨a2, i2, k2⟩ := fld hel hn 2 (t := 5) (o := 2) (by kernel_rfl) z5 (rdInt u5)
 obtain ⟨a3, i3, k3⟩ := fld hel hn 3 (t := 22) (o := 3) (by kernel_rfl) z22 (rdInt u22)
 exact ⟨⟨a0, a1, a2, a3⟩, ⟨i0, i1, i2, i3⟩, k0.append (k1.append (k2.append k3))⟩
def Ok23 (l : List SMove) : Prop := ∀ a, a ∈ l → Ok126 a
theorem rd23 : Rd 23 (fun l : List SMove => [.sl false 4 (l.map tySMove.c)]) Ok23 := rdSlice (ty := tySMove) u23 z126 (by omega) (fun _ => rfl) rd126
theorem ln6 {α : Type} {l : List α} (h : l.length = 6) : ∃ v0 v1 v2 v3 v4 v5, l = [v0, v1, v2, v3, v4, v5] := by match l, h with | [v0, v1, v2, v3, v4, v5], _ => exact ⟨v0, v1, v2, v3, v4, v5, rfl⟩
def c25 (x : SDraft) : List V := [.int .u8 x.fMapping, .int .u8 x.fFilter, .int .u8 x.fPorts, .int .u16 x.fTimeout, .bool x.fHairpin, .sl false 4 (List.map tySMove.c x.fMoves)]
def Ok25 (x : SDraft) : Prop := (Lit.int .u8 x.fMapping).wf = true ∧ (Lit.int .u8 x.fFilter).wf = true ∧ (Lit.int .u8 x.fPorts).wf = true ∧ (Lit.int .u16 x.fTimeout).wf = true ∧ True ∧ Ok23 x.fMoves
theorem rd25 : Rd 25 c25 Ok25 := fun H enc W fuel cs x h => by
 obtain ⟨xs, m, rfl, -, hl, hn, hel⟩ := DataW.trod_struct u25 h
 rw [z25] at hl
 obtain ⟨v0, v1, v2, v3, v4, v5, rfl⟩ := ln6 hl
 obtain ⟨a0, i0, k0⟩ := fld hel hn 0 (t := 5) (o := 0) (by kernel_rfl) z5 (rdInt u5)
 obtain ⟨a1, i1, k1⟩ := fld hel hn 1 (t := 5) (o := 1) (by kernel_rfl) z5 (rdInt u5)
 obtain ⟨a2, i2, k2⟩ := fld hel hn 2 (t := 5) (o := 2) (by kernel_rfl) z5 (rdInt u5)
 obtain ⟨a3, i3, k3⟩ := fld hel hn 3 (t := 22) (o := 3) (by kernel_rfl) z22 (rdInt u22)
 obtain ⟨a4, i4, k4⟩ := fld hel hn 4 (t := 4) (o := 4) (by kernel_rfl) z4 (rdBool u4)
 obtain ⟨a5, i5, k5⟩ := fld hel hn 5 (t := 23) (o := 5) (by kernel_rfl) z23 rd23
 exact ⟨⟨a0, a1, a2, a3, a4, a5⟩, ⟨i0, i1, i2, i3, i4, i5⟩, k0.append (k1.append (k2.append (k3.append (k4.append k5))))⟩
def Ok68 (l : List SDraft) : Prop := ∀ a, a ∈ l → Ok25 a
theorem rd68 : Rd 68 (fun l : List SDraft => [.sl false 6 (l.map tySDraft.c)]) Ok68 := rdSlice (ty := tySDraft) u68 z25 (by omega) (fun _ => rfl) rd25
theorem u69 : Tryd.prog.underlying 69 = some (.slice 131) := by kernel_rfl
theorem z69 : Tryd.prog.cellsOf 69 = 1 := by kernel_rfl
theorem u131 : Tryd.prog.underlying 131 = some (.struct (fsOf 131)) := by kernel_rfl
theorem z131 : Tryd.prog.cellsOf 131 = 4 := by kernel_rfl
def c131 (x : SPlace1) : List V := [.int .u8 x.fNat, .int .u8 x.fIp, .int .u8 x.fDelay, .int .u8 x.fLose]
def Ok131 (x : SPlace1) : Prop := (Lit.int .u8 x.fNat).wf = true ∧ (Lit.int .u8 x.fIp).wf = true ∧ (Lit.int .u8 x.fDelay).wf = true ∧ (Lit.int .u8 x.fLose).wf = true
theorem rd131 : Rd 131 c131 Ok131 := fun H enc W fuel cs x h => by
 obtain ⟨xs, m, rfl, -, hl, hn, hel⟩ := DataW.trod_struct u131 h
 rw [z131] at hl
 obtain ⟨v0, v1, v2, v3, rfl⟩ := ln4 hl
 obtain ⟨a0, i0, k0⟩ := fld hel hn 0 (t := 5) (o := 0) (by kernel_rfl) z5 (rdInt u5)
 obtain ⟨a1, i1, k1⟩ := fld hel hn 1 (t := 5) (o := 1) (by kernel_rfl) z5 (rdInt u5)
 obtain ⟨a2, i2, k2⟩ := fld hel hn 2 (t := 5) (o := 2) (by kernel_rfl) z5 (rdInt u5)
 obtain ⟨a3, i3, k3⟩ := fld hel hn 3 (t := 5) (o := 3) (by kernel_rfl) z5 (rdInt u5)
 exact ⟨⟨a0, a1, a2, a3⟩, ⟨i0, i1, i2, i3⟩, k0.append (k1.append (k2.append k3))⟩
def Ok69 (l : List SPlace1) : Prop := ∀ a, a ∈ l → Ok131 a
theorem rd69 : Rd 69 (fun l : List SPlace1 => [.sl false 4 (l.map tySPlace1.c)]) Ok69 := rdSlice (ty := tySPlace1) u69 z131 (by omega) (fun _ => rfl) rd131
theorem u70 : Tryd.prog.underlying 70 = some (.slice 82) := by kernel_rfl
theorem z70 : Tryd.prog.cellsOf 70 = 1 := by kernel_rfl
theorem u82 : Tryd.prog.underlying 82 = some (.struct (fsOf 82)) := by kernel_rfl
theorem z82 : Tryd.prog.cellsOf 82 = 5 := by kernel_rfl
theorem ln5 {α : Type} {l : List α} (h : l.length = 5) : ∃ v0 v1 v2 v3 v4, l = [v0, v1, v2, v3, v4] := by match l, h with | [v0, v1, v2, v3, v4], _ => exact ⟨v0, v1, v2, v3, v4, rfl⟩
def c82 (x : SSending) : List V := [.int .u8 x.fHost, .int .u8 x.fPort, .int .u8 x.fTo, .int .u16 x.fAfter, .bool x.fStep]
def Ok82 (x : SSending) : Prop := (Lit.int .u8 x.fHost).wf = true ∧ (Lit.int .u8 x.fPort).wf = true ∧ (Lit.int .u8 x.fTo).wf = true ∧ (Lit.int .u16 x.fAfter).wf = true ∧ True
theorem rd82 : Rd 82 c82 Ok82 := fun H enc W fuel cs x h => by
 obtain ⟨xs, m, rfl, -, hl, hn, hel⟩ := DataW.trod_struct u82 h
 rw [z82] at hl
 obtain ⟨v0, v1, v2, v3, v4, rfl⟩ := ln5 hl
 obtain ⟨a0, i0, k0⟩ := fld hel hn 0 (t := 5) (o := 0) (by kernel_rfl) z5 (rdInt u5)
 obtain ⟨a1, i1, k1⟩ := fld hel hn 1 (t := 5) (o := 1) (by kernel_rfl) z5 (rdInt u5)
 obtain ⟨a2, i2, k2⟩ := fld hel hn 2 (t := 5) (o := 2) (by kernel_rfl) z5 (rdInt u5)
 obtain ⟨a3, i3, k3⟩ := fld hel hn 3 (t := 22) (o := 3) (by kernel_rfl) z22 (rdInt u22)
 obtain ⟨a4, i4, k4⟩ := fld hel hn 4 (t := 4) (o := 4) (by kernel_rfl) z4 (rdBool u4)
 exact ⟨⟨a0, a1, a2, a3, a4⟩, ⟨i0, i1, i2, i3, i4⟩, k0.append (k1.append (k2.append (k3.append k4)))⟩
def Ok70 (l : List SSending) : Prop := ∀ a, a ∈ l → Ok82 a
theorem rd70 : Rd 70 (fun l : List SSending => [.sl false 5 (l.map tySSending.c)]) Ok70 := rdSlice (ty := tySSending) u70 z82 (by omega) (fun _ => rfl) rd82
theorem ln3 {α : Type} {l : List α} (h : l.length = 3) : ∃ v0 v1 v2, l = [v0, v1, v2] := by match l, h with | [v0, v1, v2], _ => exact ⟨v0, v1, v2, rfl⟩
def c72 (x : SDraft1) : List V := [.sl false 6 (List.map tySDraft.c x.fNats), .sl false 4 (List.map tySPlace1.c x.fHosts), .sl false 5 (List.map tySSending.c x.fSent)]
def Ok72 (x : SDraft1) : Prop := Ok68 x.fNats ∧ Ok69 x.fHosts ∧ Ok70 x.fSent
theorem rd72 : Rd 72 c72 Ok72 := fun H enc W fuel cs x h => by
 obtain ⟨xs, m, rfl, -, hl, hn, hel⟩ := DataW.trod_struct u72 h
 rw [z72] at hl
 obtain ⟨v0, v1, v2, rfl⟩ := ln3 hl
 obtain ⟨a0, i0, k0⟩ := fld hel hn 0 (t := 68) (o := 0) (by kernel_rfl) z68 rd68
 obtain ⟨a1, i1, k1⟩ := fld hel hn 1 (t := 69) (o := 1) (by kernel_rfl) z69 rd69
 obtain ⟨a2, i2, k2⟩ := fld hel hn 2 (t := 70) (o := 2) (by kernel_rfl) z70 rd70
 exact ⟨⟨a0, a1, a2⟩, ⟨i0, i1, i2⟩, k0.append (k1.append k2)⟩
end Go.Proofs.YtdiagiflihpidaaDoor
namespace Go.Proofs.YtdiagiflihpidaaDoor
open Go Go.EV
set_option maxRecDepth 100000
theorem sending_of {x : SSending} (h : Ok82 x) : SendingOk x := ⟨w8_iff h.1, w8_iff h.2.1, w8_iff h.2.2.1, w16_iff h.2.2.2.1⟩
theorem draftW_of {d : SDraft1} (h : Ok72 d) : DraftW d :=
 ⟨fun x hx => ⟨(w8_iff (h.1 x hx).1).1, (w8_iff (h.1 x hx).2.1).1, (w8_iff (h.1 x hx).2.2.1).1, (w16_iff (h.1 x hx).2.2.2.1).1⟩,
  fun p hp => ⟨w8_iff (h.2.1 p hp).1, w8_iff (h.2.1 p hp).2.1, w8_iff (h.2.1 p hp).2.2.1, w8_iff (h.2.1 p hp).2.2.2⟩, fun x hx => sending_of (h.2.2 x hx)⟩
end Go.Proofs.YtdiagiflihpidaaDoor
namespace Go.Proofs.YtdiagiflihpidaaDoor
open Go Go.EV
set_option maxRecDepth 100000
theorem tys72 : (fsOf 72).toList.map (·.type) = [68, 69, 70] := by kernel_rfl
theorem by131 : Tryd.prog.bytesOf 131 = 4 := by kernel_rfl
theorem at72 : ((fsOf 72)[1]?).map (fun f => (f.type, f.offset)) = some (69, 1) := by kernel_rfl
theorem hosts_fit {H : Type} {enc : TypeId × Value → H} {W : World} {v : Value} {d : DataW H} {p : List MemPlace} {x : SDraft1} {ts : List TypeId} {ds : List (DataW H)}
  (h : DataW.Trod enc Tryd.prog W 0 (fun _ => true) true 72 v d p) (r : Rep (gh0 W) W (ofL []) uTop (.agg (c72 x)) v)
  (hw : (DataW.weightsEach Tryd.prog (72 :: ts) (d :: ds)).all (· ≤ reachBytes) = true) : x.fHosts.length ≤ 35184372088832 := by
 obtain ⟨vs, rfl, e1, e2⟩ := r.agg_inv
 have e1 : vs.length = 3 := e1
 match vs, e1 with
 | [w0, w1, w2], _ =>
 have r1 : Rep (gh0 W) W (ofL []) uTop (.sl false 4 (List.map tySPlace1.c x.fHosts)) w1 := e2 1 _ _ rfl rfl
 obtain ⟨fuel, hf⟩ := h
 have hf : DataW.trod enc Tryd.prog W 0 (fun _ => true) true fuel 72 [w0, w1, w2] = some (d, p) := hf
 obtain ⟨xs, m, -, hx, -, hn, hel⟩ := DataW.trod_struct u72 hf
 simp only [Prod.mk.injEq] at hx
 obtain ⟨rfl, rfl⟩ := hx
 obtain ⟨f, h1, h2⟩ := Option.map_eq_some_iff.1 at72
 simp only [Prod.mk.injEq] at h2
 obtain ⟨g1, g2⟩ := h2
 have h3 := hel 1 f h1
 rw [g1, g2, z69] at h3
 have hn3 : xs.length = 3 := by rw [hn]; kernel_rfl
 match xs, hn3 with
 | [y0, y1, y2], _ =>
 have h3 : DataW.trod enc Tryd.prog W 0 (fun _ => true) true m 69 [w1] = some y1 := h3
 rcases r1.sl_inv with ⟨a, _, hr⟩ | ⟨B, o, cap, ws, rfl, _⟩
 ·have : x.fHosts = [] := List.map_eq_nil_iff.1 hr
  rw [this]; simp
 rcases DataW.trod_slice u69 h3 with ⟨hb, -⟩ | ⟨a, len, cap', elems, rest, n, rfl, hcs, rfl, -, -, -, hlen, -⟩
 ·simp at hb
 simp only [List.cons.injEq, Value.slice.injEq, and_true] at hcs
 have hlen2 : elems.length = x.fHosts.length := by rw [hlen, ← hcs.2.1]; simp
 have hm : (elems.length + rest.length) * Tryd.prog.bytesOf 131 ≤ reachBytes := by
  have := List.all_eq_true.1 hw ((elems.length + rest.length) * Tryd.prog.bytesOf 131) (by
   simp only [DataW.weightsEach, DataW.weights, u72, tys72, u69, List.map_cons, List.map_nil, List.length_map, List.mem_append, List.mem_cons]
   simp)
  simpa using this
 rw [by131, hlen2] at hm
 have hrb : reachBytes = 140737488351232 := by kernel_rfl
 omega
end Go.Proofs.YtdiagiflihpidaaDoor
namespace Go.Proofs.YtdiagiflihpidaaDoor
open Go Go.EV Go.ChangeShapes Go.WideShapes Go.ChangeAt Go.RowKit
set_option maxRecDepth 100000
theorem calls11 {w : World} (h : laidMetH Tryd.prog laid1 w) {v0 v1 : Value} {x0 : SDraft1} {x1 : (List SSending)} (hd : DraftW x0) (hl : ∀ x, x ∈ x1 → SendingOk x) (hz : x0.fHosts.length ≤ 35184372088832)
  (r0 : Rep (gh0 w) w (ofL []) uTop (.agg (c72 x0)) v0) (r1 : Rep (gh0 w) w (ofL []) uTop (.sl false 5 (x1.map tySSending.c)) v1) :
  Calls Tryd.prog 11 #[v0, v1] w fun e w' => e = .returned (.bool true) ∧ ∃ γ', Grow (gh0 w) w γ' w' := by
 have c : CallC Tryd.prog GG 11 [.agg (c72 x0), .sl false 5 (x1.map tySSending.c)] (ofL []) (.bool true) (ofL []) := (s11 x0 x1).ok true (SOk.eq (ok11 x0 x1 hd hl hz))
 refine (c (gh0 w) w #[v0, v1] (globOk h) (fun B x hx => by simp [gh0] at hx) ⟨rfl, fun i c v hc hv => ?_⟩ (fun b k hb => by simp [ofL] at hb)).mono fun e w' hq => ?_
 ·match i, hc, hv with
  | 0, hc, hv => simp at hc hv; subst hc; subst hv; exact r0
  | 1, hc, hv => simp at hc hv; subst hc; subst hv; exact r1
  | n + 2, hc, hv => simp at hc
 ·obtain ⟨v, γ', rfl, hg, _, hr, _⟩ := hq
  have := hr.bool_inv
  subst this
  exact ⟨rfl, γ', hg⟩
noncomputable def zero11 : Array Value := #[.agg #[.slice none 0 0, .slice none 0 0, .slice none 0 0],
 .slice none 0 0]
theorem lifted11 (os : Os) (started : os.Started) (H : Type) (enc : TypeId × Value → H) :
  ReturnsInHanded {} Tryd.checked os 11 .any (fun w args => (Rows.networkArrivesSpec.pre enc Tryd.prog Tryd.f11 [] false w args ∧ laidMetH Tryd.prog laid1 w) ∧ sizedMet enc Tryd.prog Tryd.f11 (OpenSpec.ofChange Rows.networkArrivesSpec) false w args)
   (Rows.networkArrivesSpec.post enc Tryd.prog Tryd.f11 false true false false) := by
 refine returnsInHanded_of_change_and (C := Tryd.checked) (X := fun w _ => laidMetH Tryd.prog laid1 w) (fun _ _ _ hh h => h.of_heap hh) own started (by kernel_rfl) Tryd.func11
  (ChangeSpec.witness_shaped (enc := enc) (C := Tryd.checked) (os := os) (X := fun w _ => laidMetH Tryd.prog laid1 w) false (World.doorLaid Tryd.prog 14 os) zero11 8 rfl (World.shaped_of_RefB (by kernel_rfl) (by kernel_rfl)) (by kernel_rfl) (by kernel_rfl) (by kernel_rfl) (door_met os _)) ?_
 intro W base args ds gs before hval0 hW _ hwt0 hL _
 have hval : ∀ (j : Nat) t v, Tryd.f11.params[j]? = some t → args[j]? = some v → Value.okWide Tryd.prog W .any base t v := hval0
 have hW' := hW
 have hlt0 := DataW.Whole.lt hW
 obtain ⟨p, q, hA0, hV, rfl, hfz, hnd⟩ := hW
 have hA : DataW.TrodAll enc Tryd.prog W 0 (fun _ => true) true Tryd.f11.params.toList args.toList ds p := hA0
 have hwt : (DataW.weightsEach Tryd.prog (Tryd.f11.params.toList ++ Rows.networkArrivesSpec.plain.varTypes Tryd.prog) (ds ++ gs)).all (· ≤ reachBytes) = true := hwt0
 rw [Tryd.params11] at hA hval hwt
 obtain ⟨rfl, rfl⟩ := trodVars_none hV
 obtain ⟨v0, v1, d0, d1, p0, p1, rfl, rfl, rfl, h0, h1⟩ := trodAll_two hA
 obtain ⟨x0, i0, r0⟩ := open_agg rd72 (agg_struct u72 (hval 0 72 v0 rfl rfl)) h0
 obtain ⟨x1, i1, q1⟩ := open_one rd70 (slice_one u70 (hval 1 70 v1 rfl rfl)) h1
 have r1 := q1 _ rfl
 refine (calls11 hL (draftW_of i0) (fun x hx => sending_of (i1 x hx)) (hosts_fit h0 r0 hwt) r0 r1).mono fun e W' ⟨he, γ', hg⟩ => ?_
 subst he
 have hb := below_of_grow hg
 refine ⟨_, rfl, [d0, d1], [], _, [], (p0 ++ p1), [], hW', trodAll_mk1 (shut_bool u4 true), ?_, rfl, keptBut_of_grow hg _, fun h => by cases h⟩
 show DataW.TrodAll enc Tryd.prog W' 0 (fun b => decide (b < W.heap.size)) true Tryd.f11.params.toList [v0, v1] [d0, d1] _
 rw [Tryd.params11]
 exact trodAll_mk2
  (Below.trod laidOut (by kernel_rfl) (of_decide_eq_true (by kernel_rfl)) h0 hb (fun x hx => hlt0 x (by simp [hx])))
  (Below.trod laidOut (by kernel_rfl) (of_decide_eq_true (by kernel_rfl)) h1 hb (fun x hx => hlt0 x (by simp [hx])))
theorem holds11 : Rows.NetworkArrivesSaid :=
 OpenClaim.holds_of_wide 11 Tryd.f11 rfl rfl rfl rfl rfl rfl rfl ⟨rfl, rfl, rfl, rfl, rfl⟩ rfl rfl rfl rfl rfl (by kernel_rfl) Tryd.func11 (by kernel_rfl)
  (of_decide_eq_true (by kernel_rfl)) (by unfold Func.isWrapper; first | (rw [if_pos (by decide +kernel)]; kernel_rfl) | (rw [if_neg (by decide +kernel)]; exact ⟨rfl, rfl⟩))
  (fun os started H enc _ => lifted11 os started H enc)
theorem networkArrives_card : Rows.NetworkArrivesCardSaid :=
 Claim7.holds_tied_plain_at .later [] [.funcs] true (true, "d9d31fb8dbcb4dca77f16e6eba1af0d680b8feeef2c2c067e149d5f1543ab3eb") false
  holds11 (fun _ h => by cases h) (by kernel_rfl) (fun _ h => by cases h) networkArrives_row_tie rfl ⟨rfl, rfl⟩ (by kernel_rfl) rfl
  (fun f fn hf hfn => by
   obtain rfl : f = 11 := Option.some.inj ((show Tryd.prog.funcNamed "tannoy/tannoylaw14.NetworkArrives" = some 11 by kernel_rfl).symm.trans hf) |>.symm
   obtain rfl : fn = Tryd.f11 := (Option.some.inj (Tryd.func11.symm.trans hfn)).symm
   exact ⟨by kernel_rfl, fun j t ht => by
    rw [Tryd.params11] at ht
    have hm : t ∈ [72, 70] := by simpa using Array.mem_of_getElem? ht
    have hall : ([72, 70].all fun u => !Tryd.prog.wantsStandIn u) = true := by kernel_rfl
    exact (show Tryd.prog.wantsStandIn t = false by simpa using List.all_eq_true.1 hall t hm)⟩)
  (by kernel_rfl)
end Go.Proofs.YtdiagiflihpidaaDoor
