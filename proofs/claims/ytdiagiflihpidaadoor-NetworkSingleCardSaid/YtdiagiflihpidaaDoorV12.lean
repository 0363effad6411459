/- What sending comes to, by network and by its reference; the network stays valid. Conditions: the network is valid.
   Sending, as network and as its reference make it. Conditions: the network is valid.
   The network of a draft, before anything was sent: it is valid. Conditions: the draft's numbers are octets and the like.
   The reference's Send and Step keep a network valid; the network of a draft is valid, and its time is small. Conditions: the draft's numbers are octets and the like.
   Guides and contracts, printed by a program.
   Guides and contracts, printed by a program.
   Running to a time and then to a later one; running is making steps. Conditions: the draft's numbers are octets and the like.
   The listed variable opened; what a call may change: nothing of what was there.
   Arguments opened: what comes in reads as typed data. Conditions: none but that it reads at all.
   Readers of the laws' parameters, printed by a program.
   What is read of a draft. No conditions.
   tannoylaw14.NetworkSingle: the card. No conditions but the card's own. -/
import Derived.Test.YtdiagiflihpidaaDoorV11
import Derived.Test.YtdiagiflihpidaaDoorV7
import Derived.Test.YtdiagiflihpidaaDoorV8
import Derived.Test.YtdiagiflihpidaaDoorRows
import Derived.ChangeSame
import Derived.ChangeVars
import Derived.JoinedOf
import Derived.RowKit
import Derived.ProofKit
import Derived.LaidMore
import Derived.OpenShut
import Derived.Stop.Joined
import Derived.ChangeArms
import Derived.DataReads
import Derived.Carry
import Derived.SevenTiedAt
import Derived.Test.YtdiagiflihpidaaDoorV10
import Derived.Test.YtdiagiflihpidaaDoorCards
import Derived.Test.YtdiagiflihpidaaDoorTie
import Derived.KernelRfl
namespace Go.Proofs.YtdiagiflihpidaaDoor
open Go Go.EV
set_option maxRecDepth 100000
abbrev Way := Int × Int × SAddr × List SNat
def WayQ (hs : List SHost1) (ns : List SNat) (now : Int) (h : SHost1) (a to : SAddr) (w : Option Way) : Prop :=
 (h.fNat < 0 ∧ w = some (-1, -1, a, ns)) ∨ (0 ≤ h.fNat ∧ (∃ i, Find hs (Here h.fNat to.fHost) i ∧ 0 ≤ i) ∧ w = some (-1, h.fNat, a, ns)) ∨
 (0 ≤ h.fNat ∧ (∃ i, Find hs (Here h.fNat to.fHost) i ∧ i < 0) ∧ ∃ x, ns[h.fNat.toNat]? = some x ∧ ∃ y, OutQ x now a to y ∧ ((y.2.2 ≠ 0 ∧ w = none) ∨ (y.2.2 = 0 ∧ w = some (h.fNat, -1, y.2.1, ns.set h.fNat.toNat y.1))))
def bump (h : SHost1) : SHost1 := ⟨h.fIp, h.fNat, h.fDelay, h.fLose, h.fCount + 1⟩
def SendArg (n : SNetwork) (now : Int) (host : Nat) (port : Int) (to : SAddr) (data : ByteArray) (h : SHost1) : Prop :=
 (n.fNow ≤ now ∧ now ≤ 1099511627776) ∧ n.fHosts[host]? = some h ∧ (1 ≤ port ∧ port ≤ 65535) ∧ Usable to (hostLen n.fHosts) ∧ (data.size : Int) ≤ 1200 ∧ n.fSerial < 1099511627776 ∧ h.fCount < 1099511627776
def Lost (h : SHost1) : Prop := 0 < h.fLose ∧ Int.tmod (h.fCount + 1) h.fLose = 0
def laid (n : SNetwork) (now : Int) (h : SHost1) (to : SAddr) (data : ByteArray) (w : Way) : SFlight := ⟨now + h.fDelay, n.fSerial, w.1, w.2.1, w.2.2.1, to, data⟩
def SendQ (n : SNetwork) (now : Int) (host : Nat) (port : Int) (to : SAddr) (data : ByteArray) (h : SHost1) (m : SNetwork) : Prop :=
  (Lost h ∧ m = ⟨n.fHosts.set host (bump h), n.fNats, n.fQueue, now, n.fSerial⟩) ∨
  (¬ Lost h ∧ ∃ w, WayQ (n.fHosts.set host (bump h)) n.fNats now h ⟨h.fIp, port⟩ to w ∧
    ((w = none ∧ m = ⟨n.fHosts.set host (bump h), n.fNats, n.fQueue, now, n.fSerial⟩) ∨
     ∃ v, w = some v ∧ ((¬ (n.fQueue.length < 64 ∧ now + h.fDelay ≤ 1099511627776) ∧ m = ⟨n.fHosts.set host (bump h), v.2.2.2, n.fQueue, now, n.fSerial⟩) ∨
       ((n.fQueue.length < 64 ∧ now + h.fDelay ≤ 1099511627776) ∧ m = ⟨n.fHosts.set host (bump h), v.2.2.2, n.fQueue ++ [laid n now h to data v], now, n.fSerial + 1⟩))))
theorem hostLen_set {hs : List SHost1} {i : Nat} {h h' : SHost1} (hi : hs[i]? = some h) (he : h'.fIp = h.fIp) : hostLen (hs.set i h') = hostLen hs := by
 cases hs with
 | nil => rfl
 | cons a t =>
  cases i with
  | zero =>
   obtain rfl := Option.some.inj hi
   simp only [List.set_cons_zero, hostLen, he]
  | succ i => rfl
theorem out_valid {x : SNat} {now k : Int} {a b : SAddr} {y : SNat × SAddr × Int} (h : OutQ x now a b y) (h0 : y.2.2 = 0) (hk : (x.fHost.size : Int) = k) : Valid y.1 ∧ y.1.fHost = x.fHost ∧ y.1.fNow = now ∧ Usable y.2.1 k := by
 obtain ⟨v1, v2, v3, t, j, z, hb, rfl⟩ := out_ok h h0
 have hv := valid_out v1 v2 v3 hb
 refine ⟨hv, rfl, rfl, ?_⟩
 have hj := hb.at
 have hjl := (List.getElem?_eq_some_iff.1 hj).1
 have hm : upd (atT x now) b z ∈ (outN x now b t j z).fTable := List.mem_iff_getElem?.2 ⟨j, List.getElem?_set_self hjl⟩
 have hbd := ((allB_iff.1 hv.2).1 _ hm).1
 have h1 : x.fLow ≤ z.fPort := hbd.2.2.2.1
 have h2 : z.fPort ≤ x.fHigh := hbd.2.2.2.2.1
 have hp := v1.1.2.2.2.2.1
 have hs := v1.1.2.2.2.1
 refine ⟨⟨hk, by rw [hk] at hs; exact hs⟩, ?_, ?_⟩
 ·show 1 ≤ z.fPort; omega
 ·show z.fPort ≤ 65535; omega
theorem way_valid {hs : List SHost1} {ns : List SNat} {k now : Int} {h : SHost1} {a to : SAddr} {w : Way} (hw : WayQ hs ns now h a to (some w)) (hv : HNOk k now hs ns) (hh : -1 ≤ h.fNat ∧ h.fNat < ns.length) (ha : Usable a k) :
  HNOk k now hs w.2.2.2 ∧ w.2.2.2.length = ns.length ∧ (-1 ≤ w.1 ∧ w.1 < ns.length) ∧ (-1 ≤ w.2.1 ∧ w.2.1 < ns.length) ∧ (w.1 = -1 ∨ w.2.1 = -1) ∧ Usable w.2.2.1 k := by
 rcases hw with ⟨_, h2⟩ | ⟨h1, _, h2⟩ | ⟨h1, _, x, hx, y, hy, ⟨_, h2⟩ | ⟨h0, h2⟩⟩
 ·obtain rfl := Option.some.inj h2
  exact ⟨hv, rfl, by simp; omega, by simp; omega, .inl rfl, ha⟩
 ·obtain rfl := Option.some.inj h2
  exact ⟨hv, rfl, by simp; omega, by simp; omega, .inl rfl, ha⟩
 ·simp at h2
 ·obtain rfl := Option.some.inj h2
  have hxk := (hv.2.2.1 x (List.mem_of_getElem? hx)).2.2
  obtain ⟨o1, o2, o3, o4⟩ := out_valid hy h0 hxk
  exact ⟨hn_set hv hx o1 o2 (by omega), by simp, by simp; omega, by simp; omega, .inr rfl, o4⟩
theorem hosts_set {k now : Int} {hs : List SHost1} {ns : List SNat} {i : Nat} {h : SHost1} (hv : HNOk k now hs ns) (hi : hs[i]? = some h) (hc : h.fCount < 1099511627776) : HNOk k now (hs.set i (bump h)) ns := by
 obtain ⟨h1, ⟨h2, h2'⟩, h3, h4, h5⟩ := hv
 have hm := List.mem_of_getElem? hi
 have mem : ∀ z, z ∈ hs.set i (bump h) → z ∈ hs ∨ z = bump h := fun z hz => List.mem_or_eq_of_mem_set hz
 refine ⟨h1, ⟨fun z hz => ?_, by rw [map_set_same (y := bump h) hi rfl]; exact h2'⟩, h3, h4, fun x hx z hz => ?_⟩
 ·rcases mem z hz with hz | rfl
  ·exact h2 z hz
  ·obtain ⟨a1, a2, a3, a4, a5⟩ := h2 h hm
   exact ⟨a1, a2, a3, a4, by simp only [bump]; omega⟩
 ·rcases mem z hz with hz | rfl
  ·exact h5 x hx z hz
  ·exact h5 x hx h hm
theorem send_valid {n m : SNetwork} {now : Int} {host : Nat} {port : Int} {to : SAddr} {data : ByteArray} {h : SHost1} (hv : NV n) (ha : SendArg n now host port to data h) (hs : SendQ n now host port to data h m) :
  NV m ∧ m.fNow = now ∧ m.fHosts = n.fHosts.set host (bump h) ∧ m.fNats.length = n.fNats.length := by
 obtain ⟨b1, b2, b3, b4, b5, b6, b7⟩ := ha
 obtain ⟨⟨a1, a2, a3, a4⟩, a5, a6, a7, a8⟩ := hv
 have hm := List.mem_of_getElem? b2
 have hho := a7.2.1.1 h hm
 have hl := hostLen_set b2 (h' := bump h) rfl
 have h0 := hosts_set (hn_mono a7 b1.1) b2 b7
 have hq : ∀ {ns' : List SNat} {serial' : Int}, ns'.length = n.fNats.length → n.fSerial ≤ serial' → QueueOk (hostLen n.fHosts) ns'.length serial' n.fQueue := fun he hs' => by
  rw [he]
  refine ⟨fun f hf => ?_, a8.2⟩
  obtain ⟨⟨c1, c2, c3⟩, c4⟩ := a8.1 f hf
  exact ⟨⟨c1, by omega, c3⟩, c4⟩
 have usa : Usable ⟨h.fIp, port⟩ (hostLen n.fHosts) := ⟨⟨hho.1, a7.1⟩, b3⟩
 have plain : NV ⟨n.fHosts.set host (bump h), n.fNats, n.fQueue, now, n.fSerial⟩ :=
  ⟨⟨by simp; omega, by simp; omega, a3, a4⟩, ⟨by show 0 ≤ now; omega, b1.2⟩, a6, by show HNOk (hostLen (n.fHosts.set host (bump h))) _ _ _; rw [hl]; exact h0, by show QueueOk (hostLen (n.fHosts.set host (bump h))) _ _ _; rw [hl]; exact hq rfl (Int.le_refl _)⟩
 rcases hs with ⟨_, rfl⟩ | ⟨_, w, hw, ⟨_, rfl⟩ | ⟨v, rfl, ⟨_, rfl⟩ | ⟨hc, rfl⟩⟩⟩
 ·exact ⟨plain, rfl, rfl, rfl⟩
 ·exact ⟨plain, rfl, rfl, rfl⟩
 ·obtain ⟨w1, w2, _⟩ := way_valid hw h0 hho.2.1 usa
  exact ⟨⟨⟨by simp; omega, by simp; omega, by rw [w2]; exact a3, a4⟩, ⟨by show 0 ≤ now; omega, b1.2⟩, a6, by show HNOk (hostLen (n.fHosts.set host (bump h))) _ _ _; rw [hl]; exact w1, by show QueueOk (hostLen (n.fHosts.set host (bump h))) _ _ _; rw [hl]; exact hq w2 (Int.le_refl _)⟩, rfl, rfl, w2⟩
 ·obtain ⟨w1, w2, w3, w4, w5, w6⟩ := way_valid hw h0 hho.2.1 usa
  refine ⟨⟨⟨by simp; omega, by simp; omega, by rw [w2]; exact a3, by simp; omega⟩, ⟨by show 0 ≤ now; omega, b1.2⟩, ⟨by show 0 ≤ n.fSerial + 1; omega, by show n.fSerial + 1 ≤ _; omega⟩, by show HNOk (hostLen (n.fHosts.set host (bump h))) _ _ _; rw [hl]; exact w1, ?_⟩, rfl, rfl, w2⟩
  show QueueOk (hostLen (n.fHosts.set host (bump h))) _ _ _
  rw [hl]
  have q0 : QueueOk (hostLen n.fHosts) v.2.2.2.length (n.fSerial + 1) n.fQueue := hq w2 (by omega)
  refine ⟨fun f hf => ?_, ?_⟩
  ·rcases List.mem_append.1 hf with hf | hf
   ·exact q0.1 f hf
   ·obtain rfl := List.mem_singleton.1 hf
    rw [w2]
    have hd := hho.2.2.1
    exact ⟨⟨⟨by simp only [laid]; omega, hc.2⟩, by simp only [laid]; omega, w3, w4, w5, w6, b4, b5⟩, a6.1⟩
  ·rw [List.map_append, List.pairwise_append]
   refine ⟨a8.2, by simp, fun a ha b hb => ?_⟩
   obtain ⟨f, hf, rfl⟩ := List.mem_map.1 ha
   simp only [List.map_cons, List.map_nil, List.mem_singleton] at hb
   rw [hb]
   exact (a8.1 f hf).1.2.1
end Go.Proofs.YtdiagiflihpidaaDoor
namespace Go.Proofs.YtdiagiflihpidaaDoor
open Go Go.EV
set_option maxRecDepth 100000
theorem bump_at {hs : List SHost1} {k : Nat} {h : SHost1} (hh : hs[k]? = some h) : (hs.set k (bump h))[k]? = some (bump h) := List.getElem?_set_self (List.getElem?_eq_some_iff.1 hh).1
end Go.Proofs.YtdiagiflihpidaaDoor
namespace Go.Proofs.YtdiagiflihpidaaDoor
open Go Go.EV
set_option maxRecDepth 100000
def U8 (n : Int) : Prop := 0 ≤ n ∧ n ≤ 255
def PlaceOk (p : SPlace1) : Prop := U8 p.fNat ∧ U8 p.fIp ∧ U8 p.fDelay ∧ U8 p.fLose
def SendingOk (x : SSending) : Prop := U8 x.fHost ∧ U8 x.fPort ∧ U8 x.fTo ∧ (0 ≤ x.fAfter ∧ x.fAfter ≤ 65535)
def DraftW (d : SDraft1) : Prop := (∀ x, x ∈ d.fNats → DraftOk x) ∧ (∀ p, p ∈ d.fHosts → PlaceOk p) ∧ ∀ x, x ∈ d.fSent → SendingOk x
def hd (s : ByteArray) : Option UInt8 := s.data.toList.head?
theorem ok23w (k : Int) : SOk (s23 k) (fun a => Usable a 4 ∧ hd a.fHost = some 10) := by
 show Ok (g23 k) _
 unfold g23
 have h1 := tdiv_in k
 have h3 := Int.tmod_nonneg 5 h1.1
 have h2 := tmod_in (wu8 (Int.tdiv k 3)) (m := 5) (by omega)
 rw [wi64_id (n := Int.tmod (wu8 (Int.tdiv k 3)) 5) (by omega) (by omega), wi64_id (n := 5000 + Int.tmod (wu8 (Int.tdiv k 3)) 5) (by omega) (by omega)]
 refine Ok.done ⟨⟨⟨by simp [strOfNums_size], .inl rfl⟩, by simp only; omega, by simp only; omega⟩, by simp [hd, strOfNums]⟩
theorem ok24w (k : Int) : SOk (s24 k) (fun a => Usable a 4 ∧ hd a.fHost = some 198) := by
 show Ok (g24 k) _
 unfold g24
 have h1 := tdiv_in k
 have h3 := Int.tmod_nonneg 3 h1.1
 have h2 := tmod_in (wu8 (Int.tdiv k 3)) (m := 3) (by omega)
 rw [wi64_id (n := Int.tmod (wu8 (Int.tdiv k 3)) 3) (by omega) (by omega), wi64_id (n := 80 + Int.tmod (wu8 (Int.tdiv k 3)) 3) (by omega) (by omega)]
 refine Ok.done ⟨⟨⟨by simp [strOfNums_size], .inl rfl⟩, by simp only; omega, by simp only; omega⟩, by simp [hd, strOfNums]⟩
def natHost (j : Nat) : ByteArray := strOfNums [192, 0, 2, wu8 (9 + wu8 (j : Int))]
theorem natHost_hd (j : Nat) : hd (natHost j) = some 192 := by simp [hd, natHost, strOfNums]
theorem natHost_ne : natHost 0 ≠ natHost 1 := by decide
def NewNat (j : Nat) (x : SNat) : Prop := Valid x ∧ x.fNow = 0 ∧ x.fTable = [] ∧ x.fHost = natHost j
def NewNats (ns : List SNat) : Prop := ns.length ≤ 2 ∧ ∀ j x, ns[j]? = some x → NewNat j x
theorem newNats_ok {ns : List SNat} (h : NewNats ns) {hs : List SHost1} (hh : ∀ h, h ∈ hs → hd h.fIp ≠ some 192) : NatsOk 4 0 hs ns := by
 refine ⟨fun x hx => ?_, ?_, fun x hx z hz e => ?_⟩
 ·obtain ⟨j, hj⟩ := List.mem_iff_getElem?.1 hx
  obtain ⟨h1, h2, _, h4⟩ := h.2 j x hj
  exact ⟨h1, by omega, by rw [h4]; simp [natHost, strOfNums_size]⟩
 ·have e : ns.map SNat.fHost = (List.range ns.length).map natHost := by
   refine List.ext_getElem? fun j => ?_
   rw [List.getElem?_map, List.getElem?_map]
   rcases Nat.lt_or_ge j ns.length with hj | hj
   ·rw [List.getElem?_eq_getElem hj, List.getElem?_range hj]
    simp only [Option.map_some, (h.2 j ns[j] (List.getElem?_eq_getElem hj)).2.2.2]
   ·rw [List.getElem?_eq_none hj, List.getElem?_eq_none (by simpa using hj)]; rfl
  rw [e]
  have := h.1
  rcases Nat.lt_or_ge ns.length 1 with h1 | h1
  ·rw [show ns.length = 0 by omega]; simp
  rcases Nat.lt_or_ge ns.length 2 with h2 | h2
  ·rw [show ns.length = 1 by omega]; simp [List.range, List.range.loop]
  ·rw [show ns.length = 2 by omega]
   simp [List.range, List.range.loop]
   exact natHost_ne
 ·obtain ⟨j, hj⟩ := List.mem_iff_getElem?.1 hx
  obtain ⟨_, _, _, h4⟩ := h.2 j x hj
  exact hh z hz (by rw [e, h4]; exact natHost_hd j)
def NewHost (d : SDraft1) (m : Int) (h : SHost1) : Prop :=
 HostOk 4 m h ∧ h.fDelay ≤ 70 ∧ h.fCount = 0 ∧ hd h.fIp = some (if h.fNat < 0 then 198 else 10) ∧ (h.fLose = 0 ∨ ∃ p, p ∈ d.fHosts ∧ h.fLose = Int.tmod p.fLose 12)
def EmptyQ (d : SDraft1) (n : SNetwork) : Prop :=
 NV n ∧ n.fNow = 0 ∧ n.fSerial = 0 ∧ n.fQueue = [] ∧ NewNats n.fNats ∧ (∀ h, h ∈ n.fHosts → NewHost d n.fNats.length h) ∧ n.fHosts.length ≤ 6 ∧ hostLen n.fHosts = 4 ∧ n.fNats.length = min d.fNats.length 2
theorem empty_of {d : SDraft1} {hs : List SHost1} {ns : List SNat} (h0 : hs ≠ []) (h6 : hs.length ≤ 6) (hn : NewNats ns) (hh : ∀ h, h ∈ hs → NewHost d ns.length h) (hnd : (hs.map place).Nodup) (hl : ns.length = min d.fNats.length 2) : EmptyQ d ⟨hs, ns, [], 0, 0⟩ := by
 have hp : 1 ≤ hs.length := List.length_pos_iff.2 h0
 have hk : hostLen hs = 4 := by
  cases hs with
  | nil => exact absurd rfl h0
  | cons a t => exact (hh a (by simp)).1.1
 refine ⟨⟨⟨hp, by show hs.length ≤ 8; omega, by have := hn.1; show ns.length ≤ 4; omega, by simp⟩, ⟨by simp, by simp⟩, ⟨by simp, by simp⟩, ?_, ⟨by simp, by simp⟩⟩, rfl, rfl, rfl, hn, hh, h6, hk, hl⟩
 show HNOk (hostLen hs) 0 hs ns
 rw [hk]
 exact ⟨.inl rfl, ⟨fun h hm => (hh h hm).1, hnd⟩, newNats_ok hn fun h hm => by rw [(hh h hm).2.2.2.1]; split <;> simp⟩
theorem t39 {d : SDraft1} (hd : DraftW d) : SOk (s39 d) (EmptyQ d) := by
 show Ok (g39 d) _
 unfold g39
 refine Ok.gh (Ok.bind (R := fun e => NewNats e ∧ e.length = min d.fNats.length 2) ?_ fun ns hns => ?_)
 ·refine Ok.scan (min d.fNats.length 2) (by omega) (fun k y => y.2 = (k : Int) ∧ y.1.length = k ∧ ∀ j x, y.1[j]? = some x → NewNat j x) ⟨rfl, rfl, fun j x h => by simp at h⟩ (fun k y hI hlt => ?_) fun y hI => ?_
  ·obtain ⟨y1, y2⟩ := y
   obtain ⟨rfl, i1, i2⟩ := hI
   have i1 : y1.length = k := i1
   have hk : k < d.fNats.length := by omega
   obtain ⟨x, hx, hx'⟩ := get_lt hk
   refine Ok.cnd (R := fun c => c = true) (Ok.brT (by simp [mlen_eq]; omega) (Ok.done (by simp; omega))) fun c hc => Ok.brT hc (Ok.row (by simp) hx ?_)
   refine Ok.call (ok63v x (hd.1 x (List.mem_of_getElem? hx'))) fun r hr => Ok.app (by simp [i1]; omega) (Ok.gh (Ok.gh (Ok.done ⟨wi64_nat (n := 2) (by omega) (by omega), by simp [i1], fun j z hz => ?_⟩)))
   have hz : (y1 ++ [SNat.mk r.fMapping r.fFilter r.fTimeout r.fHairpin (natHost k) r.fLow r.fHigh r.fNow r.fTable])[j]? = some z := hz
   rcases Nat.lt_or_ge j k with hj | hj
   ·rw [List.getElem?_append_left (by omega)] at hz
    exact i2 j z hz
   ·have hj2 : j = k := by
     have := (List.getElem?_eq_some_iff.1 hz).1
     simp [i1] at this; omega
    subst hj2
    rw [← i1, List.getElem?_concat_length] at hz
    obtain rfl := Option.some.inj hz
    obtain ⟨r1, r2, r3, r4⟩ := hr
    have ht : r.fTable = [] := List.length_eq_zero_iff.1 (by have := r4.1; simpa using this)
    have hv := r2.1
    rw [i1]
    refine ⟨valid_nil ⟨hv.1, hv.2.1, hv.2.2.1, .inl (by simp [natHost, strOfNums_size]), hv.2.2.2.2.1, hv.2.2.2.2.2⟩ ht, ?_, ht, rfl⟩
    have := hv.2.2.2.2.2.1
    show r.fNow = 0
    omega
  ·obtain ⟨y1, y2⟩ := y
   obtain ⟨rfl, i1, i2⟩ := hI
   have i1 : y1.length = _ := i1
   refine Ok.cnd (R := fun c => c = false) (Ok.br (fun h => Ok.done ?_) fun h => Ok.done rfl) fun c hc => Ok.brF hc (Ok.done ⟨⟨by rw [i1]; omega, i2⟩, i1⟩)
   simp only [mlen_eq, decide_eq_true_eq] at h
   simp only [decide_eq_false_iff_not]; omega
 ·obtain ⟨hn, hnl⟩ := hns
  have hn2 := hn.1
  have e1 : wi64 ((ns.length : Int) + 1) = (ns.length : Int) + 1 := wi64_id (by omega) (by omega)
  simp only [e1]
  refine Ok.gh (Ok.bind (R := fun e => (∀ h, h ∈ e → NewHost d ns.length h) ∧ (e.map place).Nodup ∧ e.length ≤ 6) ?_ fun hs hhs => ?_)
  ·refine Ok.scan (min d.fHosts.length 6) (by omega) (fun k y => y.2 = (k : Int) ∧ y.1.length ≤ k ∧ (∀ h, h ∈ y.1 → NewHost d ns.length h) ∧ (y.1.map place).Nodup) ⟨rfl, Nat.le_refl _, fun h hh => by simp at hh, by simp⟩ (fun k y hI hlt => ?_) fun y hI => ?_
   ·obtain ⟨y1, y2⟩ := y
    obtain ⟨rfl, i1, i2, i3⟩ := hI
    have i1 : y1.length ≤ k := i1
    have hk : k < d.fHosts.length := by omega
    obtain ⟨x, hx, hx'⟩ := get_lt hk
    obtain ⟨p1, p2, p3, p4⟩ := hd.2.1 x (List.mem_of_getElem? hx')
    refine Ok.cnd (R := fun c => c = true) (Ok.brT (by simp [mlen_eq]; omega) (Ok.done (by simp; omega))) fun c hc => Ok.brT hc (Ok.row (by simp) hx ?_)
    have m1 := tmod_in x.fNat (m := (ns.length : Int) + 1) (by omega)
    have m2 := Int.tmod_nonneg ((ns.length : Int) + 1) p1.1
    have m3 := tmod_in x.fDelay (m := 8) (by omega)
    have m4 := Int.tmod_nonneg 8 p3.1
    have m5 := tmod_in x.fLose (m := 12) (by omega)
    have m6 := Int.tmod_nonneg 12 p4.1
    have p1' := p1.2
    have p1'' := p1.1
    have w1 := wi64_id (n := x.fNat) (by omega) (by omega)
    have w2 := wi64_id (n := Int.tmod x.fNat ((ns.length : Int) + 1) - 1) (by omega) (by omega)
    have w3 := wi64_id (n := Int.tmod x.fDelay 8) (by omega) (by omega)
    have w4 := wi64_id (n := 10 * Int.tmod x.fDelay 8) (by omega) (by omega)
    have w5 := wi64_id (n := Int.tmod x.fLose 12) (by omega) (by omega)
    simp only [w1, w2, w3, w4, w5]
    refine Ok.chk (by simp; omega) (Ok.call (ok23w x.fIp) fun a ha => ?_)
    refine Ok.bind (R := fun ip => (ip.size : Int) = 4 ∧ Go.Proofs.YtdiagiflihpidaaDoor.hd ip = some (if Int.tmod x.fNat ((ns.length : Int) + 1) - 1 < 0 then 198 else 10)) (Ok.br (fun h => Ok.call (ok24w x.fIp) fun b hb => Ok.done ⟨hb.1.1.1, by rw [if_pos (of_decide_eq_true h)]; exact hb.2⟩) fun h => Ok.done ⟨ha.1.1.1, by rw [if_neg (of_decide_eq_false h)]; exact ha.2⟩) fun ip hip => ?_
    refine Ok.bind (R := fun l => (0 ≤ l ∧ l ≤ 100) ∧ (l = 0 ∨ l = Int.tmod x.fLose 12)) (Ok.br (fun h => Ok.done ⟨by omega, .inl rfl⟩) fun h => Ok.done ⟨by omega, .inr rfl⟩) fun l hl => ?_
    refine Ok.view (ok66 _ _ _ (by show y1.length ≤ 1000000; omega)) fun i hi => Ok.br (fun h => Ok.app (by simp; omega) (Ok.gh (Ok.gh (Ok.done ⟨wi64_nat (n := 6) (by omega) (by omega), by simp; omega, fun z hz => ?_, ?_⟩)))) fun h => Ok.done ⟨wi64_nat (n := 6) (by omega) (by omega), by show y1.length ≤ k + 1; omega, i2, i3⟩
    ·rcases List.mem_append.1 hz with hz | hz
     ·exact i2 z hz
     ·obtain rfl := List.mem_singleton.1 hz
      refine ⟨⟨hip.1, ⟨by simp only; omega, by simp only; omega⟩, ⟨by simp only; omega, by simp only; omega⟩, hl.1, ⟨Int.le_refl _, by simp⟩⟩, by simp only; omega, rfl, hip.2, ?_⟩
      rcases hl.2 with h | h
      ·exact .inl h
      ·exact .inr ⟨x, List.mem_of_getElem? hx', h⟩
    ·rw [List.map_append, List.map_cons, List.map_nil, nodup_app]
     refine ⟨i3, fun hm => ?_⟩
     obtain ⟨z, hz, e⟩ := List.mem_map.1 hm
     have hneg : i < 0 := by simpa using h
     have : 0 ≤ i := hi.nonneg.2 ⟨z, hz, (congrArg Prod.fst e : z.fNat = _), (congrArg Prod.snd e : z.fIp = _)⟩
     omega
   ·obtain ⟨y1, y2⟩ := y
    obtain ⟨rfl, i1, i2, i3⟩ := hI
    refine Ok.cnd (R := fun c => c = false) (Ok.br (fun h => Ok.done ?_) fun h => Ok.done rfl) fun c hc => Ok.brF hc (Ok.done ⟨i2, i3, by have i1 : y1.length ≤ _ := i1; show y1.length ≤ 6; omega⟩)
    simp only [mlen_eq, decide_eq_true_eq] at h
    simp only [decide_eq_false_iff_not]; omega
  ·obtain ⟨h1, h2, h3⟩ := hhs
   refine Ok.br (fun h => Ok.call (ok24w 0) fun a ha => Ok.gh (Ok.gh (Ok.done ?_))) fun h => Ok.gh (Ok.gh (Ok.done ?_))
   ·refine empty_of (by simp) (by simp) hn (fun z hz => ?_) (by simp) hnl
    obtain rfl := List.mem_singleton.1 hz
    exact ⟨⟨ha.1.1.1, ⟨by simp, by simp only; omega⟩, ⟨by simp, by simp⟩, ⟨by simp, by simp⟩, ⟨by simp, by simp⟩⟩, by simp, rfl, by simpa using ha.2, .inl rfl⟩
   ·exact empty_of (fun e => by rw [e] at h; simp at h) h3 hn h1 h2 hnl
end Go.Proofs.YtdiagiflihpidaaDoor
namespace Go.Proofs.YtdiagiflihpidaaDoor
open Go Go.EV
set_option maxRecDepth 100000
theorem ok72 {n : SNetwork} (now host port : Int) (to : SAddr) (data : ByteArray) (hv : NV n) :
  SOk (s72 n now host port to data) (fun r => r.2 = 0 → ∃ (k : Nat) (h : SHost1), host = (k : Int) ∧ SendArg n now k port to data h ∧ SendQ n now k port to data h r.1) := by
 have hw := nv_small hv
 obtain ⟨h0, t, hh⟩ := nv_cons hv
 have hk0 : hostLen n.fHosts = (h0.fIp.size : Int) := by rw [hh]; rfl
 have t78' := t78 hv
 have t97' := t97 hv
 obtain ⟨⟨a1, a2, a3, a4⟩, a5, a6, a7, a8⟩ := hv
 show Ok (g72 n now host port to data) _
 unfold g72
 refine Ok.call t97' fun b hb => Ok.brF (by simp [hb]) ?_
 have e1 : wi64 (mlen tySHost1 n.fHosts - 1) = (n.fHosts.length : Int) - 1 := by rw [mlen_eq, wi64_id (by omega) (by omega)]
 simp only [e1]
 have l98 : ∀ x lo hi, SOk (s98 x lo hi) (fun c => (c = true ↔ lo ≤ x ∧ x ≤ hi)) := fun x lo hi => by
  show Ok (g98 x lo hi) _
  unfold g98
  refine Ok.cnd (R := fun c => (c = true ↔ lo ≤ x ∧ x ≤ hi)) (Ok.br (fun h => Ok.done ?_) (fun h => Ok.done ?_)) fun c hc => Ok.done hc
  ·simp at h ⊢; omega
  ·simp at h ⊢; omega
 refine Ok.cnd (R := fun c => (c = false → (n.fNow ≤ now ∧ now ≤ 1099511627776) ∧ (0 ≤ host ∧ host < n.fHosts.length) ∧ (1 ≤ port ∧ port ≤ 65535) ∧ Usable to (hostLen n.fHosts))) ?_ fun c hc => ?_
 ·refine Ok.call (l98 _ _ _) fun b1 h1 => Ok.br (fun e => Ok.done (by simp)) fun e1 => Ok.call (l98 _ _ _) fun b2 h2 => Ok.br (fun e => Ok.done (by simp)) fun e2 => Ok.call (l98 _ _ _) fun b3 h3 => Ok.br (fun e => Ok.done (by simp)) fun e3 => ?_
  refine Ok.row (x := h0) rfl (by rw [hh]; rfl) (Ok.call (ok54 _ _) fun b4 h4 => Ok.done fun e4 => ?_)
  rw [← hk0] at h4
  simp only [Bool.not_eq_eq_eq_not, Bool.not_false] at e1 e2 e3 e4
  have g2 := h2.1 e2
  exact ⟨h1.1 e1, ⟨g2.1, by omega⟩, h3.1 e3, h4.1 e4⟩
 refine Ok.br (fun h => Ok.done (by simp)) fun h => ?_
 obtain ⟨c1, c2, c3, c4⟩ := hc h
 refine Ok.br (fun h => Ok.done (by simp)) fun h5 => ?_
 obtain ⟨k, rfl⟩ : ∃ k : Nat, host = (k : Int) := ⟨host.toNat, by omega⟩
 have hkl : k < n.fHosts.length := by omega
 obtain ⟨h, _, b2⟩ := get_lt hkl
 have hho := a7.2.1.1 h (List.mem_of_getElem? b2)
 have hs' := bump_at b2
 refine Ok.cnd (R := fun c => (c = false → n.fSerial < 1099511627776 ∧ h.fCount < 1099511627776)) ?_ fun c hc2 => ?_
 ·refine Ok.br (fun e => Ok.done (by simp)) fun e => Ok.row (by simp) (by rw [Int.toNat_natCast]; exact b2) (Ok.done fun e2 => ?_)
  simp only [beq_eq_false_iff_ne, ne_eq] at e e2
  exact ⟨by omega, by have := hho.2.2.2.2; omega⟩
 refine Ok.br (fun h => Ok.done (by simp)) fun h6 => ?_
 obtain ⟨b6, b7⟩ := hc2 h6
 have hdat : (data.size : Int) ≤ 1200 := by simp at h5; omega
 have hcnt : wi64 (h.fCount + 1) = h.fCount + 1 := wi64_id (by have := hho.2.2.2.2; omega) (by omega)
 have hdel : wi64 (now + h.fDelay) = now + h.fDelay := wi64_id (by have := hho.2.2.1; omega) (by have := hho.2.2.1; omega)
 have hser : wi64 (n.fSerial + 1) = n.fSerial + 1 := wi64_id (by omega) (by omega)
 have fin : ∀ m : SNetwork, SendQ n now k port to data h m → Ok (.done (m, 0) : TT (SNetwork × Int)) (fun r => r.2 = 0 → ∃ (k' : Nat) (h : SHost1), (k : Int) = (k' : Int) ∧ SendArg n now k' port to data h ∧ SendQ n now k' port to data h r.1) := fun m hm =>
  Ok.done fun _ => ⟨k, h, rfl, ⟨c1, b2, c3, c4, hdat, b6, b7⟩, hm⟩
 refine Ok.call t78' fun q hq => ?_
 subst hq
 simp only [Nat.zero_add, Int.toNat_natCast]
 refine Ok.chk (by simp; omega) (Ok.row rfl b2 (Ok.chk (by simp; omega) (Ok.row rfl b2 (Ok.re (Ok.gh ?_)))))
 have eb : SHost1.mk h.fIp h.fNat h.fDelay h.fLose (wi64 (h.fCount + 1)) = bump h := by rw [hcnt]; rfl
 simp only [eb]
 refine Ok.chk (by simp; omega) (Ok.row rfl hs' ?_)
 refine Ok.cnd (R := fun c => (c = true ↔ Lost h)) ?_ fun c hc => ?_
 ·refine Ok.br (fun h1 => Ok.chk ?_ (Ok.done ?_)) fun h1 => Ok.done ?_
  ·have h2 : 0 < h.fLose := of_decide_eq_true h1
   show (!(h.fLose == 0)) = true
   simp; omega
  ·have h3 : 0 < h.fLose := of_decide_eq_true h1
   show ((Int.tmod (h.fCount + 1) h.fLose == 0) = true ↔ _)
   simp only [beq_iff_eq]
   exact ⟨fun h2 => ⟨h3, h2⟩, fun h2 => h2.2⟩
  ·have h3 : ¬ 0 < h.fLose := of_decide_eq_false h1
   simp only [Bool.false_eq_true, false_iff]
   exact fun h2 => h3 h2.1
 refine Ok.br (fun hl => Ok.gh (Ok.gh (Ok.gh (fin _ (.inl ⟨hc.1 hl, rfl⟩))))) fun hl => ?_
 have hnl : ¬ Lost h := fun hh => by rw [hc.2 hh] at hl; simp at hl
 simp only [bump, hdel]
 refine Ok.cnd (R := fun c => (c = true ↔ 0 ≤ h.fNat ∧ ∃ i, Find (n.fHosts.set k (bump h)) (Here h.fNat to.fHost) i ∧ 0 ≤ i) ∧ ∃ i, Find (n.fHosts.set k (bump h)) (Here h.fNat to.fHost) i) ?_ fun c hc => ?_
 ·have hfind := ok66 (SNetwork.mk (n.fHosts.set k (bump h)) n.fNats n.fQueue now n.fSerial) h.fNat to.fHost (by show (n.fHosts.set k _).length ≤ _; simpa using hw.1)
  refine Ok.br (fun h1 => Ok.view hfind fun i hi => Ok.done ⟨?_, i, hi⟩) fun h1 => Ok.done ⟨?_, ?_⟩
  ·have h1' : 0 ≤ h.fNat := of_decide_eq_true h1
   simp only [decide_eq_true_eq]
   exact ⟨fun h2 => ⟨h1', i, hi, h2⟩, fun ⟨_, j, hj, h2⟩ => by rw [hi.eq hj]; exact h2⟩
  ·have h1' : ¬ 0 ≤ h.fNat := of_decide_eq_false h1
   simp only [Bool.false_eq_true, false_iff]
   exact fun h2 => h1' h2.1
  ·obtain ⟨i, _, hi⟩ := hfind
   exact ⟨i, hi⟩
 obtain ⟨hc, i0, hi0⟩ := hc
 refine Ok.bind2 (R := fun e => WayQ (n.fHosts.set k (bump h)) n.fNats now h ⟨h.fIp, port⟩ to (match e with | .inl q => some (q.1, q.2.1, ⟨q.2.2.1, q.2.2.2.1⟩, q.2.2.2.2) | .inr _ => none)) ?_ (fun e he => ?_) fun e he => ?_
 ·refine Ok.br (fun h1 => Ok.done (.inr (.inl ⟨(hc.1 h1).1, (hc.1 h1).2, rfl⟩))) fun h1 => Ok.br (fun h2 => ?_) fun h2 => Ok.done (.inl ⟨Int.not_le.1 (of_decide_eq_false h2), rfl⟩)
  have h2' : 0 ≤ h.fNat := of_decide_eq_true h2
  have hneg : i0 < 0 := by
   rcases Int.lt_or_le i0 0 with h3 | h3
   ·exact h3
   ·rw [hc.2 ⟨h2', i0, hi0, h3⟩] at h1; simp at h1
  obtain ⟨x, hx⟩ := at_of h2' hho.2.1.2
  have hck : (decide (0 ≤ h.fNat) && decide (h.fNat < (n.fNats.length : Int))) = true := by have := hho.2.1.2; simp; omega
  refine Ok.chk hck (Ok.row rfl (by exact hx) ?_)
  refine Ok.call (ok26 x _ _ _ (hw.2.2.2 x (List.mem_of_getElem? hx))) fun y hy => Ok.br (fun h3 => Ok.done (.inr (.inr ⟨h2', ⟨i0, hi0, hneg⟩, x, hx, y, hy, .inl ⟨by simpa using h3, rfl⟩⟩))) fun h3 => ?_
  exact Ok.chk hck (Ok.row rfl (by exact hx) (Ok.re (Ok.gh (Ok.done (.inr (.inr ⟨h2', ⟨i0, hi0, hneg⟩, x, hx, y, hy, .inr ⟨by simpa using h3, rfl⟩⟩))))))
 ·refine Ok.cnd (R := fun c => (c = true ↔ n.fQueue.length < 64 ∧ now + h.fDelay ≤ 1099511627776)) ?_ fun c hc => Ok.br (fun h1 => Ok.app ?_ (Ok.gh (Ok.gh (Ok.gh (fin _ (.inr ⟨hnl, _, he, .inr ⟨_, rfl, .inr ⟨hc.1 h1, ?_⟩⟩⟩)))))) fun h1 => Ok.gh (Ok.gh (Ok.gh (fin _ (.inr ⟨hnl, _, he, .inr ⟨_, rfl, .inl ⟨fun hh => by rw [hc.2 hh] at h1; simp at h1, rfl⟩⟩⟩))))
  ·refine Ok.br (fun h1 => Ok.done ?_) fun h1 => Ok.done ?_
   ·simp at h1 ⊢; omega
   ·simp at h1 ⊢; omega
  ·show (n.fQueue.length + 1) * 96 ≤ 140737488355328
   omega
  ·rw [hser]; rfl
 ·exact Ok.gh (Ok.gh (Ok.gh (fin _ (.inr ⟨hnl, _, he, .inl ⟨rfl, rfl⟩⟩))))
theorem nv_step {n : SNetwork} (hv : NV n) {ns : List SNat} {q : List SFlight} {now : Int} (h1 : HNOk (hostLen n.fHosts) now n.fHosts ns) (h2 : ns.length = n.fNats.length) (h3 : q.Sublist n.fQueue) (h4 : n.fNow ≤ now) (h5 : now ≤ 1099511627776) : NV ⟨n.fHosts, ns, q, now, n.fSerial⟩ := by
 obtain ⟨⟨a1, a2, a3, a4⟩, a5, a6, a7, a8⟩ := hv
 have hl := h3.length_le
 refine ⟨⟨a1, a2, by show ns.length ≤ 4; omega, by show q.length ≤ 64; omega⟩, ⟨by show 0 ≤ now; omega, h5⟩, a6, h1, ?_⟩
 show QueueOk (hostLen n.fHosts) ns.length n.fSerial q
 rw [h2]
 exact queue_sub a8 h3
def StepV (n m : SNetwork) : Prop := NV m ∧ m.fHosts = n.fHosts ∧ (∀ f, f ∈ m.fQueue → f ∈ n.fQueue) ∧ ∃ f, f ∈ n.fQueue ∧ m.fNow = later n.fNow f.fDue
theorem ok74 {n : SNetwork} (hv : NV n) : SOk (s74 n) (fun r => r.2.2 = 0 → StepV n r.1) := by
 have hw := nv_small hv
 have t78' := t78 hv
 have t99' := t99 hv
 have hv' := hv
 obtain ⟨⟨a1, a2, a3, a4⟩, a5, a6, a7, a8⟩ := hv'
 show Ok (g74 n) _
 unfold g74
 refine Ok.call t99' fun r hr => Ok.br (fun h => Ok.done (by simp at h ⊢; exact fun e => absurd e h)) fun h => ?_
 rcases hr with ⟨_, rfl⟩ | ⟨k, f, h1, h2, rfl⟩
 ·simp at h
 have hkl := (List.getElem?_eq_some_iff.1 h2).1
 have hfm := List.mem_of_getElem? h2
 have hd := (a8.1 f hfm).1.1
 have hg := later_ge n.fNow f.fDue
 have hle := later_le (u := 1099511627776) a5.2 hd.2
 have hne : n.fQueue ≠ [] := fun e => by rw [e] at h2; simp at h2
 refine Ok.call t78' fun q hq => ?_
 subst hq
 refine Ok.view (ok100 (SNetwork.mk n.fHosts n.fNats n.fQueue n.fNow n.fSerial) hne hw.2.2.1) fun i hi => ?_
 obtain rfl := hi.eq h1
 have e1 : wi64 ((k : Int) + 1) = (k : Int) + 1 := wi64_id (by omega) (by omega)
 have e2 : ((k : Int) + 1).toNat = k + 1 := by omega
 have el : (if f.fDue > n.fNow then f.fDue else n.fNow) = later n.fNow f.fDue := rfl
 simp only [Nat.zero_add, Int.toNat_natCast, e1, e2]
 refine Ok.chk (by simp; omega) (Ok.row rfl h2 (Ok.chk (by simp; omega) (Ok.chk (by simp; omega) (Ok.opr (r := ()) ?_ ?_))))
 ·show (bif decide _ then some () else none) = some ()
  rw [decide_eq_true (by omega)]; rfl
 simp only [el]
 have hsub : (n.fQueue.take k ++ (n.fQueue.drop (k + 1)).take (n.fQueue.length - (k + 1))).Sublist n.fQueue := by
  rw [List.take_of_length_le (l := n.fQueue.drop (k + 1)) (by simp), ← List.eraseIdx_eq_take_drop_succ]
  exact List.eraseIdx_sublist _ _
 have fin : ∀ {ns : List SNat}, HNOk (hostLen n.fHosts) (later n.fNow f.fDue) n.fHosts ns → ns.length = n.fNats.length → StepV n ⟨n.fHosts, ns, n.fQueue.take k ++ (n.fQueue.drop (k + 1)).take (n.fQueue.length - (k + 1)), later n.fNow f.fDue, n.fSerial⟩ := fun hn hl =>
  ⟨nv_step hv hn hl hsub hg.1 hle, rfl, fun g hgm => hsub.subset hgm, f, hfm, rfl⟩
 have hn0 := hn_mono a7 hg.1
 refine Ok.br (fun h => ?_) fun h => ?_
 ·exact Ok.view (ok66 _ _ _ hw.1) fun j _ => Ok.gh (Ok.gh (Ok.gh (Ok.done fun _ => fin hn0 rfl)))
 refine Ok.view (ok66 _ _ _ hw.1) fun j _ => Ok.br (fun h => Ok.gh (Ok.gh (Ok.gh (Ok.done fun _ => fin hn0 rfl)))) fun h => ?_
 refine Ok.bind (R := fun e => (HNOk (hostLen n.fHosts) (later n.fNow f.fDue) n.fHosts e.1 ∧ e.1.length = n.fNats.length) ∧ e.2.1 = later n.fNow f.fDue) ?_ fun e he => ?_
 ·refine Ok.scan n.fNats.length (by omega) (fun k y => y.2.2.2.2 = (k : Int) ∧ HNOk (hostLen n.fHosts) (later n.fNow f.fDue) n.fHosts y.2.2.2.1 ∧ y.2.2.2.1.length = n.fNats.length) ⟨rfl, hn0, rfl⟩ (fun k y hI hlt => ?_) fun y hI => ?_
  ·obtain ⟨y1, y2, y3, y4, y5⟩ := y
   obtain ⟨rfl, i1, i2⟩ := hI
   have i2 : y4.length = n.fNats.length := i2
   have i1 : HNOk (hostLen n.fHosts) (later n.fNow f.fDue) n.fHosts y4 := i1
   have hlt4 : k < y4.length := by omega
   obtain ⟨x, _, hx'⟩ := get_lt hlt4
   have hck : (decide (0 ≤ (k : Int)) && decide ((k : Int) < (y4.length : Int))) = true := by simp; omega
   have hnx := wi64_nat hlt (by omega)
   refine Ok.brT (by simp; omega) ?_
   simp only [Int.toNat_natCast]
   refine Ok.cnd (R := fun _ => True) ?_ fun c _ => Ok.br (fun _ => Ok.done ⟨hnx, i1, i2⟩) fun _ => ?_
   ·refine Ok.chk hck (Ok.row rfl hx' (Ok.br (fun _ => Ok.done trivial) fun _ => Ok.br (fun _ => Ok.chk hck (Ok.row rfl hx' (Ok.done trivial))) fun _ => Ok.done trivial))
   ·refine Ok.chk hck (Ok.row rfl hx' (Ok.call (ok28 x _ _ _ (valid_small' (i1.2.2.1 x (List.mem_of_getElem? hx')).1)) fun z hz => Ok.br (fun h3 => ?_) fun _ => Ok.done ⟨hnx, i1, i2⟩))
    obtain ⟨v1, v2, _, _, _, _, _, rfl⟩ := in_ok hz (by simpa using h3)
    exact Ok.chk hck (Ok.row rfl hx' (Ok.re (Ok.gh (Ok.view (ok66 _ _ _ hw.1) fun _ _ => Ok.done ⟨hnx, hn_set i1 hx' (valid_at v1 v2.1 v2.2.1) rfl (Int.le_refl _), by simpa using i2⟩))))
  ·obtain ⟨y1, y2, y3, y4, y5⟩ := y
   obtain ⟨rfl, i1, i2⟩ := hI
   have i2 : y4.length = n.fNats.length := i2
   exact Ok.brF (by simp [i2]) (Ok.done ⟨⟨i1, i2⟩, rfl⟩)
 ·obtain ⟨⟨i1, i2⟩, i3⟩ := he
  refine Ok.gh (Ok.gh (Ok.gh (Ok.done fun _ => ?_)))
  simp only [i3]
  exact fin i1 i2
def Bnd (k : Nat) (n : SNetwork) : Prop := n.fNow ≤ 300 * (k : Int) ∧ (∀ f, f ∈ n.fQueue → f.fDue ≤ 300 * (k : Int) + 70) ∧ ∀ h, h ∈ n.fHosts → h.fDelay ≤ 70
theorem bnd_send {n m : SNetwork} {now : Int} {host : Nat} {port : Int} {to : SAddr} {data : ByteArray} {h : SHost1} {k : Nat} (hb : Bnd k n) (ha : SendArg n now host port to data h) (hs : SendQ n now host port to data h m) (ht : now ≤ 300 * (k : Int) + 199) : m.fNow = now ∧ (∀ f, f ∈ m.fQueue → f.fDue ≤ 300 * (k : Int) + 269) ∧ ∀ h, h ∈ m.fHosts → h.fDelay ≤ 70 := by
 obtain ⟨b1, b2, b3⟩ := hb
 have hh := b3 h (List.mem_of_getElem? ha.2.1)
 have hq : ∀ f, f ∈ n.fQueue → f.fDue ≤ 300 * (k : Int) + 269 := fun f hf => by have := b2 f hf; omega
 have hs' : ∀ z, z ∈ n.fHosts.set host (bump h) → z.fDelay ≤ 70 := fun z hz => by
  rcases List.mem_or_eq_of_mem_set hz with hz | rfl
  ·exact b3 z hz
  ·exact hh
 rcases hs with ⟨_, rfl⟩ | ⟨_, w, _, ⟨_, rfl⟩ | ⟨v, _, ⟨_, rfl⟩ | ⟨_, rfl⟩⟩⟩
 ·exact ⟨rfl, hq, hs'⟩
 ·exact ⟨rfl, hq, hs'⟩
 ·exact ⟨rfl, hq, hs'⟩
 ·refine ⟨rfl, fun f hf => ?_, hs'⟩
  rcases List.mem_append.1 hf with hf | hf
  ·exact hq f hf
  ·obtain rfl := List.mem_singleton.1 hf
   show now + h.fDelay ≤ _
   omega
theorem bnd_step {n m : SNetwork} {k : Nat} (h : StepV n m) (h1 : n.fNow ≤ 300 * (k : Int) + 269) (h2 : ∀ f, f ∈ n.fQueue → f.fDue ≤ 300 * (k : Int) + 269) (h3 : ∀ h, h ∈ n.fHosts → h.fDelay ≤ 70) : Bnd (k + 1) m := by
 obtain ⟨_, g1, g2, f, g3, g4⟩ := h
 refine ⟨?_, fun x hx => by have := h2 x (g2 x hx); omega, by rw [g1]; exact h3⟩
 have := later_le (u := 300 * (k : Int) + 269) h1 (h2 f g3)
 rw [g4]; omega
def DraftN (n : SNetwork) : Prop := NV n ∧ n.fNow ≤ 12000
theorem t42 {d : SDraft1} (hd : DraftW d) : SOk (s42 d) DraftN := by
 show Ok (g42 d) _
 unfold g42
 refine Ok.call (t39 hd) fun n hn => ?_
 refine Ok.bind (R := fun e => DraftN ⟨e.1, e.2.1, e.2.2.1, e.2.2.2.1, e.2.2.2.2⟩) ?_ fun e he => Ok.done he
 refine Ok.scan (min d.fSent.length 40) (by omega) (fun k y => y.2.2.2.2.2 = (k : Int) ∧ NV ⟨y.1, y.2.1, y.2.2.1, y.2.2.2.1, y.2.2.2.2.1⟩ ∧ Bnd k ⟨y.1, y.2.1, y.2.2.1, y.2.2.2.1, y.2.2.2.2.1⟩) ⟨rfl, hn.1, ?_⟩ (fun k y hI hlt => ?_) fun y hI => ?_
 ·refine ⟨by show n.fNow ≤ _; rw [hn.2.1]; simp, fun f hf => ?_, fun h hh => (hn.2.2.2.2.2.1 h hh).2.1⟩
  have hf : f ∈ n.fQueue := hf
  rw [hn.2.2.2.1] at hf; simp at hf
 ·obtain ⟨y1, y2, y3, y4, y5, y6⟩ := y
  obtain ⟨rfl, i1, i2⟩ := hI
  have i1 : NV ⟨y1, y2, y3, y4, y5⟩ := i1
  have i2 : Bnd k ⟨y1, y2, y3, y4, y5⟩ := i2
  have b0 : y4 ≤ 300 * (k : Int) := i2.1
  have hk : k < d.fSent.length := by omega
  obtain ⟨x, hx, hx'⟩ := get_lt hk
  obtain ⟨p1, p2, p3, p4⟩ := hd.2.2 x (List.mem_of_getElem? hx')
  have m1 := tmod_in x.fAfter (m := 200) (by omega)
  have m2 := Int.tmod_nonneg 200 p4.1
  have hy4 : 0 ≤ y4 := i1.2.1.1
  have hnow : wi64 (y4 + wi64 (Int.tmod x.fAfter 200)) = y4 + Int.tmod x.fAfter 200 := by
   rw [wi64_id (n := Int.tmod x.fAfter 200) (by omega) (by omega), wi64_id (by omega) (by omega)]
  have hnx := wi64_nat (n := 40) (k := k) (by omega) (by omega)
  have hlen : 1 ≤ y1.length := i1.1.1
  simp only []
  refine Ok.cnd (R := fun c => c = true) (Ok.brT (by simp [mlen_eq]; omega) (Ok.done (by simp; omega))) fun c hc => Ok.brT hc (Ok.row (by simp) hx ?_)
  have hck : (!(mlen tySHost1 y1 == 0)) = true := by rw [mlen_eq]; simp only [Bool.not_eq_true', beq_eq_false_iff_ne, ne_eq]; omega
  refine Ok.chk hck ?_
  refine Ok.call (R := fun _ => True) ?_ fun a _ => ?_
  ·show Ok (g73 x.fTo) _
   unfold g73
   refine Ok.br (fun _ => Ok.call (ok23w _) fun _ _ => Ok.done trivial) fun _ => Ok.bind (R := fun _ => True) (Ok.br (fun _ => Ok.done trivial) fun _ => Ok.done trivial) fun _ _ => Ok.br (fun _ => Ok.call (ok24w _) fun _ _ => Ok.done trivial) fun _ => Ok.done trivial
  refine Ok.call (ok72 _ _ _ _ _ i1) fun r hr => ?_
  refine Ok.bind (R := fun e => NV ⟨e.1, e.2.1, e.2.2.1, e.2.2.2.1, e.2.2.2.2⟩ ∧ e.2.2.2.1 ≤ 300 * (k : Int) + 269 ∧ (∀ f, f ∈ e.2.2.1 → f.fDue ≤ 300 * (k : Int) + 269) ∧ ∀ h, h ∈ e.1 → h.fDelay ≤ 70) (Ok.br (fun h => Ok.done ?_) fun h => Ok.done ?_) fun e he => ?_
  ·obtain ⟨j, h, _, ha, hs⟩ := hr (by simpa using h)
   obtain ⟨v1, _, _, _⟩ := send_valid i1 ha hs
   obtain ⟨w1, w2, w3⟩ := bnd_send i2 ha hs (by omega)
   exact ⟨v1, by show r.1.fNow ≤ _; rw [w1]; omega, w2, w3⟩
  ·exact ⟨i1, by show y4 ≤ _; omega, fun f hf => by have := i2.2.1 f hf; omega, i2.2.2⟩
  ·obtain ⟨v1, v2, v3, v4⟩ := he
   refine Ok.call (ok74 v1) fun z hz => Ok.cnd (R := fun c => c = true → z.2.2 = 0) (Ok.br (fun h => Ok.done fun _ => by simpa using h) fun h => Ok.done (by simp)) fun c hc => Ok.br (fun h => Ok.done ⟨hnx, (hz (hc h)).1, bnd_step (hz (hc h)) v2 v3 v4⟩) fun h => Ok.done ⟨hnx, v1, ?_⟩
   exact ⟨by show e.2.2.2.1 ≤ _; omega, fun f hf => by have := v3 f hf; omega, v4⟩
 ·obtain ⟨y1, y2, y3, y4, y5, y6⟩ := y
  obtain ⟨rfl, i1, i2⟩ := hI
  have b0 : y4 ≤ 300 * ((min d.fSent.length 40 : Nat) : Int) := i2.1
  refine Ok.cnd (R := fun c => c = false) (Ok.br (fun h => Ok.done ?_) fun h => Ok.done rfl) fun c hc => Ok.brF hc (Ok.done ⟨i1, ?_⟩)
  ·simp only [mlen_eq, decide_eq_true_eq] at h
   simp only [decide_eq_false_iff_not]; omega
  ·show y4 ≤ 12000; omega
end Go.Proofs.YtdiagiflihpidaaDoor
namespace Go.Proofs.YtdiagiflihpidaaDoor
open Go Go.EV
set_option maxRecDepth 100000
noncomputable def g37  : TT (Bool) :=
 .call 1001 s50 [] [] fun r735 =>
 .call 1002 (s49 198 51 100 1 80) [] [] fun r736 =>
 .call 1003 (s40 r735 0 1 5000 r736 (bs [120])) [] [] fun r737 =>
 .call 2002 (s47 r737.1) [] [] fun r738 =>
 .call 3002 (s48 r737.1) [] [] fun r739 =>
 .call 4002 (s41 r737.1 30) [] [] fun r740 =>
 .call 5001 (s49 192 0 2 9 5000) [] [] fun r741 =>
 .call 5002 (s49 198 51 100 1 80) [] [] fun r742 =>
 .cnd 6 [0]
 (.br 6004 (r737.2 == 0)
  (.br 6008 (r738.2 == 0)
   (.br 6012 (r738.1 == 20)
    (.br 6016 (r739.2.2 == 0)
     (.br 6021 ((r739.2.1.fHost == 0) && ((decide (r739.2.1.fFrom.fHost = r741.fHost)) && ((r739.2.1.fFrom.fPort == r741.fPort) && ((decide (r739.2.1.fTo.fHost = r742.fHost)) && ((r739.2.1.fTo.fPort == r742.fPort) && ((decide (r739.2.1.fData = (bs [120]))) && true))))))
      (.br 6026 (r739.1.fNow == 20)
       (.br 6030 (r740.2.2 == 0)
        (.br 6035 (r740.1.fNow == 30)
         (.view 6038 (s45 r740.2.1 [(SDelivery.mk 0 r741 r742 (bs [120]))]) [] fun r743 =>
          .br 6041 r743
          (.call 6042 (s43 r737.1) [] [] fun r744 =>
           .br 6046 (r744 == 0)
           (.call 6047 (s43 (SNetwork.mk [] [] [] 0 0)) [] [] fun r745 =>
            .done (r745 == 140))
           (.done false))
          (.done false))
         (.done false))
        (.done false))
       (.done false))
      (.done false))
     (.done false))
    (.done false))
   (.done false))
  (.done false))
 (fun (c746 : Bool) => [.bool c746]) fun c746 =>
 .done c746
theorem k37  : FnD Tryd.prog GG [0, 1, 2, 3, 4, 5, 6, 7, 8, 9, 10, 11] Tryd.f37 [] (g37) (fun r => .bool r) := by unfold FnD; kernel_rfl
noncomputable def s37  : EV.Spec Tryd.prog GG (Bool) := .ofFn 37 mixed Tryd.func37 (k37)
end Go.Proofs.YtdiagiflihpidaaDoor
namespace Go.Proofs.YtdiagiflihpidaaDoor
open Go Go.EV
set_option maxRecDepth 100000
noncomputable def g13 (p0 : SDraft1) : TT (Bool) :=
 .call 1001 s37 [] [] fun r766 =>
 .br 0 (!r766)
 (.done false)
 (.call 3002 (s42 p0) [] [] fun r767 =>
  .call 4002 (s41 r767 1099511627776) [] [] fun r768 =>
  .br 0 (r768.2.2 != 0)
  (.done false)
  (.gh 1 (.virt 600151 7 6) (.bind2 0
   (.lp (fun (l775 : (List SHost1) × (List SNat) × (List SFlight) × Int × Int × (List SDelivery) × Int) => Ext.of .normal [(2, .bool false), (3, .ptr 3 0 0), (5, .sl false 6 (List.map tySDelivery.c r768.2.1)), (7, .ref 600151 0 l775.2.2.2.2.2.1.length), (29, .int .i64 (mlen tySFlight r767.fQueue)), (30, .int .i64 l775.2.2.2.2.2.2)] [(3, ⟨5, true, [[.sl false 5 (List.map tySHost1.c l775.1), .sl false 9 (List.map tySNat.c l775.2.1), .sl false 9 (List.map tySFlight.c l775.2.2.1), .int .i64 l775.2.2.2.1, .int .i64 l775.2.2.2.2.1]]⟩)] [BT.of 600151 tySDelivery 6 l775.2.2.2.2.2.1 true] (by rfl))
    (fun l775 =>
     .br 0 (decide (l775.2.2.2.2.2.2 < (mlen tySFlight r767.fQueue)))
     (.call 10002 (s47 (SNetwork.mk l775.1 l775.2.1 l775.2.2.1 l775.2.2.2.1 l775.2.2.2.2.1)) [] [] fun r776 =>
      .call 11002 (s48 (SNetwork.mk l775.1 l775.2.1 l775.2.2.1 l775.2.2.2.1 l775.2.2.2.2.1)) [] [] fun r777 =>
      .cnd 12 [85]
      (.br 12004 (r776.2 != 0)
       (.done true)
       (.br 12008 (r777.2.2 != 0)
        (.done true)
        (.br 12018 ((mlen tySFlight r777.1.fQueue) != (wi64 ((mlen tySFlight l775.2.2.1) - 1)))
         (.done true)
         (.br 12027 (r777.1.fNow != (if r776.1 > l775.2.2.2.1 then r776.1 else l775.2.2.2.1))
          (.done true)
          (.br 12032 (decide (r777.2.1.fHost < (-1)))
           (.done true)
           (.br 12040 (decide ((mlen tySHost1 l775.1) ≤ r777.2.1.fHost))
            (.done true)
            (.call 12041 (s43 r777.1) [] [] fun r778 =>
             .done (r778 != 0))))))))
      (fun (c779 : Bool) => [.bool c779]) fun c779 =>
      .br 0 c779
      (.done (.inr (.inl (l775.2.2.2.2.2.1, l775.1, l775.2.1, l775.2.2.1, l775.2.2.2.1, l775.2.2.2.2.1, r768.2.1))))
      (.bind 0
       (.br 0 (decide ((0 : Int) ≤ r777.2.1.fHost))
        (.app 15004 tySDelivery l775.2.2.2.2.2.1 [r777.2.1] 72 false (by intro h; cases h) (.gh 0 (.ren 92 600152) (.done (l775.2.2.2.2.2.1 ++ [r777.2.1]))))
        (.gh 0 (.ren 600151 600152) (.done l775.2.2.2.2.2.1)))
       (fun (e780 : (List SDelivery)) => Ext.of .normal [(2, .bool false), (3, .ptr 3 0 0), (5, .sl false 6 (List.map tySDelivery.c r768.2.1)), (7, .ref 600152 0 e780.length), (10, .ptr 10 0 0), (29, .int .i64 (mlen tySFlight r767.fQueue)), (30, .int .i64 l775.2.2.2.2.2.2)] [(3, ⟨5, true, [[.sl false 5 (List.map tySHost1.c l775.1), .sl false 9 (List.map tySNat.c l775.2.1), .sl false 9 (List.map tySFlight.c l775.2.2.1), .int .i64 l775.2.2.2.1, .int .i64 l775.2.2.2.2.1]]⟩), (10, ⟨5, true, [[.sl false 5 (List.map tySHost1.c r777.1.fHosts), .sl false 9 (List.map tySNat.c r777.1.fNats), .sl false 9 (List.map tySFlight.c r777.1.fQueue), .int .i64 r777.1.fNow, .int .i64 r777.1.fSerial]]⟩)] [BT.of 600152 tySDelivery 6 e780 true] (by rfl))
       (fun e780 =>
        .gh 0 (.ren 600152 600151) (.done (.inl (r777.1.fHosts, r777.1.fNats, r777.1.fQueue, r777.1.fNow, r777.1.fSerial, e780, (wi64 (l775.2.2.2.2.2.2 + 1))))))))
     (.done (.inr (.inr (l775.2.2.2.2.2.1, l775.1, l775.2.1, l775.2.2.1, l775.2.2.2.1, l775.2.2.2.2.1, r768.2.1)))))
    (r767.fHosts, r767.fNats, r767.fQueue, r767.fNow, r767.fSerial, [], 0))
   (fun (e781 : (List SDelivery) × (List SHost1) × (List SNat) × (List SFlight) × Int × Int × (List SDelivery)) => Ext.of .ret [(2, .bool false), (3, .ptr 3 0 0), (5, .sl false 6 (List.map tySDelivery.c e781.2.2.2.2.2.2)), (7, .ref 600151 0 e781.1.length)] [(3, ⟨5, true, [[.sl false 5 (List.map tySHost1.c e781.2.1), .sl false 9 (List.map tySNat.c e781.2.2.1), .sl false 9 (List.map tySFlight.c e781.2.2.2.1), .int .i64 e781.2.2.2.2.1, .int .i64 e781.2.2.2.2.2.1]]⟩)] [BT.of 600151 tySDelivery 6 e781.1 true] (by rfl))
   (fun (e782 : (List SDelivery) × (List SHost1) × (List SNat) × (List SFlight) × Int × Int × (List SDelivery)) => Ext.of (.exit 0) [(2, .bool false), (3, .ptr 3 0 0), (5, .sl false 6 (List.map tySDelivery.c e782.2.2.2.2.2.2)), (7, .ref 600151 0 e782.1.length)] [(3, ⟨5, true, [[.sl false 5 (List.map tySHost1.c e782.2.1), .sl false 9 (List.map tySNat.c e782.2.2.1), .sl false 9 (List.map tySFlight.c e782.2.2.2.1), .int .i64 e782.2.2.2.2.1, .int .i64 e782.2.2.2.2.2.1]]⟩)] [BT.of 600151 tySDelivery 6 e782.1 true] (by rfl))
   (fun e781 =>
    .done false)
   (fun e782 =>
    .call 18002 (s47 (SNetwork.mk e782.2.1 e782.2.2.1 e782.2.2.2.1 e782.2.2.2.2.1 e782.2.2.2.2.2.1)) [] [] fun r783 =>
    .cnd 19 [2]
    (.br 19004 (r783.2 == 4)
     (.view 19006 (s45 e782.1 e782.2.2.2.2.2.2) [(VwW.of 600151 tySDelivery e782.1)] fun r784 =>
      .done r784)
     (.done false))
    (fun (c785 : Bool) => [.bool c785]) fun c785 =>
    .done c785))))
theorem k13 (p0 : SDraft1) : FnD Tryd.prog GG [0, 1, 2, 3, 5, 6, 7, 8, 9, 10, 11, 12, 14, 16, 26, 29, 30, 31, 85, 88] Tryd.f13 [.agg [.sl false 6 (List.map tySDraft.c p0.fNats), .sl false 4 (List.map tySPlace1.c p0.fHosts), .sl false 5 (List.map tySSending.c p0.fSent)]] (g13 p0) (fun r => .bool r) := by unfold FnD; kernel_rfl
noncomputable def s13 (p0 : SDraft1) : EV.Spec Tryd.prog GG (Bool) := .ofFn 13 mixed Tryd.func13 (k13 p0)
end Go.Proofs.YtdiagiflihpidaaDoor
namespace Go.Proofs.YtdiagiflihpidaaDoor
open Go Go.EV
set_option maxRecDepth 100000
theorem run37 : (g37).run = some true := by kernel_rfl
theorem t37 : SOk s37 (fun r => r = true) := ⟨true, run37, rfl⟩
theorem t45 {l : List SDelivery} (hl : Small l) : SOk (s45 l l) (fun r => r = true) := by
 show Ok (g45 l l) _
 unfold g45
 refine Ok.brF (by simp) (Ok.bind2 (R := Sum.elim (fun _ => False) (fun _ => True)) ?_ (fun e he => he.elim) fun e he => Ok.done rfl)
 refine Ok.scan l.length hl (fun k y => y = (k : Int)) rfl (fun k y hI hlt => ?_) fun y hI => ?_
 ·subst hI
  obtain ⟨x, hx, hx'⟩ := get_lt hlt
  exact Ok.brT (by simp [mlen_eq]; omega) (Ok.row (by simp) hx (Ok.row (by simp) hx (Ok.brF (by simp) (Ok.done (wi64_nat hlt hl)))))
 ·subst hI
  exact Ok.brF (by simp [mlen_eq]) (Ok.done trivial)
theorem runs_len {u : Int} {n o : SNetwork} {l : List SDelivery} (h : Runs u n l o) (hv : NV n) : l.length ≤ n.fQueue.length := by
 induction h with
 | stop _ => simp
 | step h1 h2 h3 h4 _ ih =>
  obtain ⟨v1, v2, _⟩ := step_valid hv h4
  have := ih v1
  rw [List.length_append]
  split
  ·simp only [List.length_cons, List.length_nil]; omega
  ·simp only [List.length_nil]; omega
theorem ok13 (d : SDraft1) (hd : DraftW d) : SOk (s13 d) (fun r => r = true) := by
 show Ok (g13 d) _
 unfold g13
 refine Ok.call t37 fun r hr => Ok.brF (by simp [hr]) ?_
 refine Ok.call (t42 hd) fun n hn => ?_
 obtain ⟨hv, ht⟩ := hn
 refine Ok.call (t41 hv (by omega) (by omega)) fun r1 h1 => ?_
 obtain ⟨l, o, g1, rfl⟩ := h1
 have ll := runs_len g1 hv
 have lq := hv.1.2.2.2
 refine Ok.brF rfl (Ok.gh (Ok.bind2 (R := Sum.elim (fun _ => False) (fun e => NV ⟨e.2.1, e.2.2.1, e.2.2.2.1, e.2.2.2.2.1, e.2.2.2.2.2.1⟩ ∧ e.2.2.2.1 = [] ∧ e.1 = l ∧ e.2.2.2.2.2.2 = l)) ?_ (fun e he => he.elim) fun e he => ?_))
 ·refine Ok.scan n.fQueue.length (by omega) (fun k y => y.2.2.2.2.2.2 = (k : Int) ∧ NV ⟨y.1, y.2.1, y.2.2.1, y.2.2.2.1, y.2.2.2.2.1⟩ ∧ y.2.2.1.length + k = n.fQueue.length ∧ ∃ l', Runs 1099511627776 ⟨y.1, y.2.1, y.2.2.1, y.2.2.2.1, y.2.2.2.2.1⟩ l' o ∧ y.2.2.2.2.2.1 ++ l' = l) ⟨rfl, hv, rfl, l, g1, rfl⟩ (fun k y hI hlt => ?_) fun y hI => ?_
  ·obtain ⟨y1, y2, y3, y4, y5, y6, y7⟩ := y
   obtain ⟨rfl, i1, i2, l', i3, i4⟩ := hI
   have i1 : NV ⟨y1, y2, y3, y4, y5⟩ := i1
   have i2 : y3.length + k = n.fQueue.length := i2
   have i3 : Runs 1099511627776 ⟨y1, y2, y3, y4, y5⟩ l' o := i3
   have i4 : y6 ++ l' = l := i4
   have hne : y3 ≠ [] := fun e => by rw [e] at i2; simp at i2; omega
   have hnx := wi64_nat hlt (by omega)
   refine Ok.brT (by simp [mlen_eq]; omega) (Ok.call (t47 i1) fun a ha => Ok.call (t48 i1) fun b hb => ?_)
   rcases ha with ⟨h, _⟩ | ⟨j, f, f1, f2, rfl⟩
   ·exact absurd h hne
   rcases hb with ⟨h, _⟩ | ⟨b1, b2⟩
   ·exact absurd h hne
   obtain ⟨v1, v2, v3, v4, v5⟩ := step_valid i1 b1
   have v2 : b.1.fQueue.length + 1 = y3.length := v2
   have hnow := step_now f1 f2 b1
   have key : ∃ l2, Runs 1099511627776 b.1 l2 o ∧ l' = (if 0 ≤ b.2.1.fHost then [b.2.1] else []) ++ l2 := by
    cases i3 with
    | stop h =>
     rcases h with h | ⟨i, g, q1, q2, q3⟩
     ·exact absurd h hne
     ·have := (i1.2.2.2.2.1 g (List.mem_of_getElem? q2)).1.1.2
      omega
    | step q1 q2 q3 q4 q5 =>
     have e := step_eq q4 b1
     simp only [Prod.mk.injEq] at e
     obtain ⟨e1, e2⟩ := e
     rw [e1] at q5
     rw [e2]
     exact ⟨_, q5, rfl⟩
   obtain ⟨l2, k1, k2⟩ := key
   refine Ok.cnd (R := fun c => c = false) ?_ fun c hc => Ok.brF hc ?_
   ·have w : wi64 ((y3.length : Int) - 1) = (y3.length : Int) - 1 := wi64_id (by omega) (by omega)
    simp only [mlen_eq, w]
    refine Ok.brF (by simp) (Ok.brF (by simp [b2]) (Ok.brF (by simp; omega) (Ok.brF (by simp [hnow, later]) (Ok.brF (by have := v3.1; simp; omega) (Ok.brF (by have : b.2.1.fHost < y1.length := v3.2; simp; omega) (Ok.call (t43 v1) fun c hc => Ok.done (by simp [hc])))))))
   ·have hlen : y6.length ≤ 64 := by
     have := congrArg List.length i4
     rw [List.length_append] at this; omega
    refine Ok.bind (R := fun e => e ++ l2 = l ∧ e = y6 ++ (if 0 ≤ b.2.1.fHost then [b.2.1] else [])) (Ok.br (fun h => Ok.app (by simp; omega) (Ok.gh (Ok.done ?_))) fun h => Ok.gh (Ok.done ?_)) fun e he => Ok.gh (Ok.done ⟨hnx, v1, by show b.1.fQueue.length + (k + 1) = _; omega, l2, k1, he.1⟩)
    ·have h' : 0 ≤ b.2.1.fHost := by simpa using h
     rw [if_pos h'] at k2 ⊢
     rw [k2] at i4
     exact ⟨by rw [List.append_assoc]; exact i4, rfl⟩
    ·have h' : ¬ 0 ≤ b.2.1.fHost := by simpa using h
     rw [if_neg h'] at k2 ⊢
     rw [k2, List.nil_append] at i4
     exact ⟨i4, by simp⟩
  ·obtain ⟨y1, y2, y3, y4, y5, y6, y7⟩ := y
   obtain ⟨rfl, i1, i2, l', i3, i4⟩ := hI
   have i2 : y3.length + n.fQueue.length = n.fQueue.length := i2
   have hq : y3 = [] := List.length_eq_zero_iff.1 (by omega)
   have i3 : Runs 1099511627776 ⟨y1, y2, y3, y4, y5⟩ l' o := i3
   have hl' : l' = [] := by
    cases i3 with
    | stop _ => rfl
    | step q1 q2 _ _ _ =>
     have q2 : y3[_]? = some _ := q2
     rw [hq] at q2; simp at q2
   subst hl'
   have i4 : y6 ++ [] = l := i4
   rw [List.append_nil] at i4
   exact Ok.brF (by simp [mlen_eq]) (Ok.done ⟨i1, hq, i4, rfl⟩)
 ·obtain ⟨v, hq, rfl, e2⟩ := he
  refine Ok.call (t47 v) fun a ha => ?_
  rcases ha with ⟨_, rfl⟩ | ⟨k, f, _, f2, _⟩
  ·refine Ok.cnd (R := fun c => c = true) (Ok.brT rfl ?_) fun c hc => Ok.done hc
   rw [e2]
   exact Ok.view (t45 (by show e.1.length ≤ _; omega)) fun c hc => Ok.done hc
  ·have f2 : e.2.2.2.1[k]? = some f := f2
   rw [hq] at f2; simp at f2
end Go.Proofs.YtdiagiflihpidaaDoor
namespace Go.Proofs.YtdiagiflihpidaaDoor
open Go Go.EV
set_option maxRecDepth 100000
theorem own : ownKnob Tryd.prog.godebug = none := by kernel_rfl
theorem gKeys : Tryd.prog.globalNamed "tannoy/nat.keys" = some 0 := by kernel_rfl
theorem tKeys : (Tryd.prog.globals[0]?).map (·.type) = some 155 := by kernel_rfl
theorem cells154 : Tryd.prog.cellsOf 154 = 1 := by kernel_rfl
theorem cells155 : Tryd.prog.cellsOf 155 = 4 := by kernel_rfl
theorem und155 : Tryd.prog.underlying 155 = some (.array 4 154) := by kernel_rfl
theorem und154 : Tryd.prog.underlying 154 = some (.func #[27] #[27] false) := by kernel_rfl
abbrev laid1 : List (String × DataW Unit) := [("tannoy/nat.keys", Rows.laid_tannoy_nat_keys)]
theorem door_met (os : Os) (args : Array Value) : laidMetH Tryd.prog laid1 ((World.doorLaid Tryd.prog 14 os).forCall (fun _ _ => 0) ⟨#[], args, []⟩).memory :=
 laidMetH_of_parts3 (fuel := 8) (laidMet_of_run' 8 (by kernel_rfl) (by kernel_rfl)) (by kernel_rfl) (by kernel_rfl)
theorem of_laid {W : World} (h : laidMetH Tryd.prog laid1 W) : W.cell? ⟨0, 0, none⟩ = some .nilFunc ∧ W.cell? ⟨0, 1, none⟩ = some (.func (.func 146) #[] #[]) ∧
  W.cell? ⟨0, 2, none⟩ = some (.func (.func 147) #[] #[]) ∧ W.cell? ⟨0, 3, none⟩ = some (.func (.func 148) #[] #[]) := by
 obtain ⟨g, t, cs, fuel, p, hg, ht, hv, hd⟩ := h.funcs (List.mem_singleton.2 rfl)
 obtain rfl := Option.some.inj (gKeys.symm.trans hg)
 obtain rfl := Option.some.inj (tKeys.symm.trans ht)
 have hd' : DataW.trod (funcToken Tryd.prog) Tryd.prog W 0 (fun _ => true) true fuel 155 cs.toList = some (.agg [.nil, .held [116, 97, 110, 110, 111, 121, 47, 110, 97, 116, 46, 107, 101, 121, 115, 36, 49], .held [116, 97, 110, 110, 111, 121, 47, 110, 97, 116, 46, 107, 101, 121, 115, 36, 50], .held [116, 97, 110, 110, 111, 121, 47, 110, 97, 116, 46, 107, 101, 121, 115, 36, 51]], p) := hd
 obtain ⟨xs, m, rfl, hx, hl, hn, hel⟩ := DataW.trod_array und155 hd'
 rw [cells155] at hl
 obtain ⟨v0, v1, v2, v3, hcs⟩ : ∃ v0 v1 v2 v3, cs.toList = [v0, v1, v2, v3] := by
  match hc : cs.toList, hl with
  | [a, b, c, d], _ => exact ⟨a, b, c, d, rfl⟩
 obtain ⟨x0, x1, x2, x3, hxs⟩ : ∃ x0 x1 x2 x3, xs = [x0, x1, x2, x3] := by
  match xs, hn with
  | [a, b, c, d], _ => exact ⟨a, b, c, d, rfl⟩
 subst hxs
 simp only [Prod.mk.injEq, DataW.agg.injEq, List.map_cons, List.map_nil, List.cons.injEq, and_true] at hx
 obtain ⟨⟨h0, h1, h2, h3⟩, -⟩ := hx
 have e0 := hel 0 (by omega)
 have e1 := hel 1 (by omega)
 have e2 := hel 2 (by omega)
 have e3 := hel 3 (by omega)
 rw [cells154, hcs] at e0 e1 e2 e3
 simp at e0 e1 e2 e3
 have k0 : v0 = .nilFunc := by
  cases m with
  | zero => simp [DataW.trod] at e0
  | succ m =>
   cases v0 <;> simp [DataW.trod] at e0 <;> first | rfl | (subst e0; simp at h0)
 have k1 : v1 = .func (.func 146) #[] #[] := func_of_trod (f0 := 146) (q := x1.2) und154 (by kernel_rfl) (e1.trans (by rw [h1]))
 have k2 : v2 = .func (.func 147) #[] #[] := func_of_trod (f0 := 147) (q := x2.2) und154 (by kernel_rfl) (e2.trans (by rw [h2]))
 have k3 : v3 = .func (.func 148) #[] #[] := func_of_trod (f0 := 148) (q := x3.2) und154 (by kernel_rfl) (e3.trans (by rw [h3]))
 have ec : cs = #[v0, v1, v2, v3] := Array.toList_inj.1 (by rw [hcs])
 subst ec
 have c := World.var?_cell gKeys hv
 exact ⟨by rw [c 0, k0]; rfl, by rw [c 1, k1]; rfl, by rw [c 2, k2]; rfl, by rw [c 3, k3]; rfl⟩
def gh0 (w : World) : Gh := { loc := fun _ => none, own := fun _ => none, lim := fun B => match w.heap[B]? with | some (.cells cs _ _) => cs.size | _ => 0 }
theorem gh0_lim {w : World} {B o : Nat} {v : Value} (h : cellAt w B o = some v) : o < (gh0 w).lim B := by
 unfold cellAt World.cell? at h
 simp only [gh0]
 cases hb : w.heap[B]? with
 | none => simp [hb] at h
 | some x =>
  cases x with
  | cells cs t fz =>
   simp only [hb] at h
   simp only
   exact (Array.getElem?_eq_some_iff.1 (by simpa using h)).1
  | _ => simp [hb] at h
theorem globOk {w : World} (h : laidMetH Tryd.prog laid1 w) : GlobOk GG (gh0 w) w := fun g cells hg => by
 unfold GG at hg
 split at hg
 ·rename_i e
  subst e
  simp only [Option.some.injEq] at hg
  subst hg
  obtain ⟨c0, c1, c2, c3⟩ := of_laid h
  refine .snap _ 0 0 (fun i => match i with | 0 => .nilFunc | 1 => .func (.func 146) #[] #[] | 2 => .func (.func 147) #[] #[] | _ => .func (.func 148) #[] #[]) (fun i c hc => ?_) (fun i c hc => ?_)
  ·have key : ∀ (o : Nat) (v : Value), w.cell? ⟨0, o, none⟩ = some v → o < (gh0 w).lim 0 ∧ cellAt w 0 o = some v := fun o v hv => ⟨gh0_lim (v := v) hv, hv⟩
   match i, hc with
   | 0, _ => exact key _ _ c0
   | 1, _ => exact key _ _ c1
   | 2, _ => exact key _ _ c2
   | 3, _ => exact key _ _ c3
   | n + 4, hc => simp at hc
  ·match i, hc with
   | 0, hc => simp at hc; subst hc; exact .nilf
   | 1, hc => simp at hc; subst hc; exact .fn 146 [] [] [] [] rfl rfl (by simp) (by simp)
   | 2, hc => simp at hc; subst hc; exact .fn 147 [] [] [] [] rfl rfl (by simp) (by simp)
   | 3, hc => simp at hc; subst hc; exact .fn 148 [] [] [] [] rfl rfl (by simp) (by simp)
   | n + 4, hc => simp at hc
 ·simp at hg
theorem keptBut_of_grow {w w' : World} {γ' : Gh} (h : Grow (gh0 w) w γ' w') (may : MemPlace → Prop) : w.keptBut w' may := by
 refine ⟨h.os, h.output, fun i hi => ?_⟩
 have := (h.free i hi rfl).1
 rw [this]
 cases w.heap[i]? with
 | none => trivial
 | some x =>
  cases x with
  | cells c t fr => exact ⟨rfl, rfl, rfl, fun _ _ => rfl⟩
  | map es clock => exact .inr ⟨rfl, rfl⟩
  | _ => rfl
end Go.Proofs.YtdiagiflihpidaaDoor
namespace Go.Proofs.YtdiagiflihpidaaDoor
open Go Go.EV Go.ChangeShapes
set_option maxRecDepth 100000
def CellsD (W : World) (l : List V) (cs : List Value) : Prop := cs.length = l.length ∧ ∀ (i : Nat) (c : V) (v : Value), l[i]? = some c → cs[i]? = some v → RepD (gh0 W).lim W c v
theorem CellsD.one {W : World} {c : V} {v : Value} (h : RepD (gh0 W).lim W c v) : CellsD W [c] [v] := ⟨rfl, fun i c' v' hc hv => by
 cases i with
 | zero => simp at hc hv; subst hc; subst hv; exact h
 | succ i => simp at hc⟩
theorem CellsD.append {W : World} {l m : List V} {cs ds : List Value} (h : CellsD W l cs) (k : CellsD W m ds) : CellsD W (l ++ m) (cs ++ ds) :=
  ⟨by simp [h.1, k.1], fun i c v hc hv => by
    by_cases hi : i < l.length
    · rw [List.getElem?_append_left hi] at hc
      rw [List.getElem?_append_left (by rw [h.1]; exact hi)] at hv
      exact h.2 i c v hc hv
    · rw [List.getElem?_append_right (by omega)] at hc
      rw [List.getElem?_append_right (by rw [h.1]; omega), h.1] at hv
      exact k.2 _ c v hc hv⟩
def Rd (t : TypeId) {α : Type} (c : α → List V) (I : α → Prop) : Prop :=
 ∀ (H : Type) (enc : TypeId × Value → H) (W : World) (fuel : Nat) (cs : List Value) (x : DataW H × List MemPlace), DataW.trod enc Tryd.prog W 0 (fun _ => true) true fuel t cs = some x → ∃ a : α, I a ∧ CellsD W (c a) cs
theorem rdInt {t : TypeId} {k : IntKind} (ht : Tryd.prog.underlying t = some (.int k)) : Rd t (fun n : Int => [.int k n]) (fun n => (Lit.int k n).wf = true) := fun H enc W fuel cs x h => by
 obtain ⟨n, rfl, _, hw⟩ := DataW.trod_int ht h
 exact ⟨n, hw, .one (.int k n)⟩
theorem rdBool {t : TypeId} (ht : Tryd.prog.underlying t = some .bool) : Rd t (fun b : Bool => [.bool b]) (fun _ => True) := fun H enc W fuel cs x h => by
 cases fuel with
 | zero => simp [DataW.trod] at h
 | succ n =>
  unfold DataW.trod at h
  rw [ht] at h
  split at h <;> first | exact ⟨_, trivial, .one (.bool _)⟩ | simp_all
theorem fld {H : Type} {enc : TypeId × Value → H} {W : World} {n : Nat} {fs : Array Field} {cs : List Value} {xs : List (DataW H × List MemPlace)} {t o z : Nat} {α : Type} {c : α → List V} {I : α → Prop}
  (hel : ∀ (i : Nat) (f : Field), fs[i]? = some f → DataW.trod enc Tryd.prog W 0 (fun _ => true) true n f.type ((cs.drop f.offset).take (Tryd.prog.cellsOf f.type)) = xs[i]?) (hn : xs.length = fs.size) (i : Nat)
  (hf : (fs[i]?).map (fun f => (f.type, f.offset)) = some (t, o)) (hz : Tryd.prog.cellsOf t = z) (r : Rd t c I) : ∃ a : α, I a ∧ CellsD W (c a) ((cs.drop o).take z) := by
 obtain ⟨f, h1, h2⟩ := Option.map_eq_some_iff.1 hf
 simp only [Prod.mk.injEq] at h2
 obtain ⟨rfl, rfl⟩ := h2
 have hi : i < xs.length := by rw [hn]; exact (Array.getElem?_eq_some_iff.1 h1).1
 have := hel i f h1
 rw [List.getElem?_eq_getElem hi, hz] at this
 exact r H enc W n _ _ this
theorem cells_at {W : World} {a : Addr} {z : Nat} {ci : List Value} (h : W.cells? 0 a z = some ci) : ci.length = z ∧ ∀ r, r < z → W.cell? (a.add r) = ci[r]? := by
 unfold World.cells? at h
 rw [if_pos (Nat.zero_le _)] at h
 exact ⟨by simpa using mapM_some_length h, fun r hr => mapM_some_get h r r (by simp [hr])⟩
theorem spot_of {W : World} {a : Addr} {z q : Nat} {ci : List Value} (hz : 0 < z) (h : W.cells? 0 (a.add (q * z)) z = some ci) (hq : q = 0) : a.spot = none := by
 obtain ⟨h1, h2⟩ := cells_at h
 have h3 := h2 0 hz
 have e : (a.add (q * z)).add 0 = a := by subst hq; simp [Addr.add]
 rw [e, List.getElem?_eq_getElem (by omega)] at h3
 exact World.cell?_spot h3
theorem rdSlice {t e z : Nat} {α : Type} {ty : Ty α} {I : α → Prop} (ht : Tryd.prog.underlying t = some (.slice e)) (hz : Tryd.prog.cellsOf e = z) (hpos : 0 < z) (hlen : ∀ a, (ty.c a).length = z) (r : Rd e ty.c I) :
  Rd t (fun l : List α => [.sl false z (l.map ty.c)]) (fun l => ∀ a, a ∈ l → I a) := fun H enc W fuel cs x h => by
 rcases DataW.trod_slice ht h with ⟨rfl, -⟩ | ⟨a, len, cap, elems, rest, n, rfl, rfl, -, -, hlc, -, hel, hE, hR, -⟩
 ·exact ⟨[], by simp, .one (.slNil false z)⟩
 rw [hz] at hE hR
 have build : ∀ m, m ≤ len → ∃ l : List α, l.length = m ∧ (∀ a, a ∈ l → I a) ∧ ∀ i x, l[i]? = some x → ∃ ci, W.cells? 0 (a.add (i * z)) z = some ci ∧ CellsD W (ty.c x) ci := by
  intro m
  induction m with
  | zero => intro _; exact ⟨[], rfl, by simp, by simp⟩
  | succ m ih =>
   intro hm
   obtain ⟨l, l1, l2, l3⟩ := ih (by omega)
   have := hE m (by omega)
   rw [List.getElem?_eq_getElem (by omega)] at this
   obtain ⟨ci, hci, htr⟩ := Option.bind_eq_some_iff.1 this
   obtain ⟨y, hy, hcd⟩ := r H enc W n ci _ htr
   refine ⟨l ++ [y], by simp [l1], fun b hb => ?_, fun i x hx => ?_⟩
   ·rcases List.mem_append.1 hb with hb | hb
    ·exact l2 b hb
    ·rw [List.mem_singleton.1 hb]; exact hy
   ·by_cases hi : i < l.length
    ·rw [List.getElem?_append_left hi] at hx; exact l3 i x hx
    ·rw [List.getElem?_append_right (by omega)] at hx
     have hi2 : i - l.length = 0 := by
      have := (List.getElem?_eq_some_iff.1 hx).1
      simp at this; omega
     rw [hi2] at hx; simp at hx; subst hx
     have : i = m := by omega
     subst this
     exact ⟨ci, hci, hcd⟩
 obtain ⟨l, hl, hI, hc⟩ := build len (Nat.le_refl _)
 refine ⟨l, hI, .one ?_⟩
 by_cases hcap : cap = 0
 ·have : l = [] := List.length_eq_zero_iff.1 (by omega)
  subst this
  have h0 : len = 0 := by simpa using hl.symm
  subst h0; subst hcap
  exact .slNil false z (some a)
 have hspot : a.spot = none := by
  by_cases h0 : len = 0
  ·obtain ⟨r1, r2⟩ := hR rfl
   have := r2 0 (by omega)
   rw [List.getElem?_eq_getElem (by omega)] at this
   obtain ⟨ci, hci, _⟩ := Option.bind_eq_some_iff.1 this
   exact spot_of hpos (q := len + 0) hci (by omega)
  ·have := hE 0 (by omega)
   rw [List.getElem?_eq_getElem (by omega)] at this
   obtain ⟨ci, hci, _⟩ := Option.bind_eq_some_iff.1 this
   exact spot_of hpos hci rfl
 obtain ⟨B, o, sp⟩ := a
 simp only at hspot
 subst hspot
 have hsz : ∀ q, q ∈ l.map ty.c → q.length = z := fun q hq => by
  obtain ⟨y, _, rfl⟩ := List.mem_map.1 hq; exact hlen y
 have key : ∀ (i : Nat) (c : V), (l.map ty.c).flatten[i]? = some c → ∃ v, cellAt W B (o + i) = some v ∧ RepD (gh0 W).lim W c v := fun i c hci => by
  have e1 : i = (i / z) * z + i % z := by rw [Nat.mul_comm]; exact (Nat.div_add_mod i z).symm
  have hm := Nat.mod_lt i hpos
  rw [e1, flatten_get _ hsz _ _ hm, List.getElem?_map] at hci
  cases hx : l[i / z]? with
  | none => rw [hx] at hci; simp at hci
  | some y =>
   rw [hx] at hci
   simp only [Option.map_some, Option.bind_some] at hci
   obtain ⟨ci, k1, k2⟩ := hc _ _ hx
   obtain ⟨k3, k4⟩ := cells_at k1
   have k5 := k4 (i % z) hm
   have hv : ci[i % z]? = some (ci[i % z]'(by omega)) := List.getElem?_eq_getElem _
   refine ⟨_, ?_, k2.2 _ _ _ hci hv⟩
   rw [hv] at k5
   rw [Addr.add_eq, Addr.add_eq] at k5
   unfold cellAt
   rw [show o + i = o + (i / z) * z + i % z by omega]
   exact k5
 have fin := RepD.sl (lim := (gh0 W).lim) (w := W) false z (l.map ty.c) B o cap (fun i => (cellAt W B (o + i)).getD default) (by simp; omega) hsz
  (fun i c hci => by obtain ⟨v, v1, v2⟩ := key i c hci; rw [v1]; exact ⟨gh0_lim v1, rfl⟩) (fun i c hci => by obtain ⟨v, v1, v2⟩ := key i c hci; rw [v1]; exact v2)
 rw [List.length_map, hl] at fin
 exact fin
noncomputable def fsOf (t : TypeId) : Array Field := match Tryd.prog.underlying t with | some (.struct f) => f | _ => #[]
theorem open_agg {H : Type} {enc : TypeId × Value → H} {W : World} {t : TypeId} {α : Type} {c : α → List V} {I : α → Prop} (r : Rd t c I) {v : Value} {d : DataW H} {p : List MemPlace} (hv : ∃ cs, v = .agg cs)
  (h : DataW.Trod enc Tryd.prog W 0 (fun _ => true) true t v d p) : ∃ a : α, I a ∧ Rep (gh0 W) W (ofL []) uTop (.agg (c a)) v := by
 obtain ⟨cs, rfl⟩ := hv
 obtain ⟨fuel, hf⟩ := h
 obtain ⟨a, hi, hc⟩ := r H enc W fuel _ _ hf
 refine ⟨a, hi, ?_⟩
 have := Rep.agg (γ := gh0 W) (w := W) (bs := ofL []) (u := uTop) (c a) cs.toList hc.1 (fun i x y hx hy => .data (hc.2 i x y hx hy))
 simpa using this
theorem agg_struct {W : World} {base : Nat} {t : TypeId} {v : Value} {fs : Array Field} (ht : Tryd.prog.underlying t = some (.struct fs)) (h : Value.okWide Tryd.prog W .any base t v) : ∃ cs, v = .agg cs := by
 simp only [Value.okWide, ht] at h
 obtain ⟨cs, h1, _⟩ := h
 exact ⟨cs, h1⟩
theorem laidOut : laidOutB Tryd.prog = true := by kernel_rfl
theorem below_of_grow {w w' : World} {γ' : Gh} (h : Grow (gh0 w) w γ' w') : RowKit.Below w.heap.size w w' :=
 ⟨h.os, h.tape, h.output, h.size, fun k hk => (h.free k hk rfl).1⟩
section
variable {H : Type} {enc : TypeId × Value → H} {P : Program} {w : World} {base : Nat} {spare : Nat → Bool} {held : Bool}
end
theorem w8_iff {n : Int} (h : (Lit.int .u8 n).wf = true) : 0 ≤ n ∧ n ≤ 255 := by
 simp [Lit.wf, IntKind.min, IntKind.max, IntKind.signed, IntKind.bits] at h; omega
theorem w16_iff {n : Int} (h : (Lit.int .u16 n).wf = true) : 0 ≤ n ∧ n ≤ 65535 := by
 simp [Lit.wf, IntKind.min, IntKind.max, IntKind.signed, IntKind.bits] at h; omega
end Go.Proofs.YtdiagiflihpidaaDoor
namespace Go.Proofs.YtdiagiflihpidaaDoor
open Go Go.EV
set_option maxRecDepth 100000
theorem u4 : Tryd.prog.underlying 4 = some .bool := by kernel_rfl
theorem z4 : Tryd.prog.cellsOf 4 = 1 := by kernel_rfl
theorem u72 : Tryd.prog.underlying 72 = some (.struct (fsOf 72)) := by kernel_rfl
theorem z72 : Tryd.prog.cellsOf 72 = 3 := by kernel_rfl
theorem u68 : Tryd.prog.underlying 68 = some (.slice 25) := by kernel_rfl
theorem z68 : Tryd.prog.cellsOf 68 = 1 := by kernel_rfl
theorem u25 : Tryd.prog.underlying 25 = some (.struct (fsOf 25)) := by kernel_rfl
theorem z25 : Tryd.prog.cellsOf 25 = 6 := by kernel_rfl
theorem u5 : Tryd.prog.underlying 5 = some (.int .u8) := by kernel_rfl
theorem z5 : Tryd.prog.cellsOf 5 = 1 := by kernel_rfl
theorem u22 : Tryd.prog.underlying 22 = some (.int .u16) := by kernel_rfl
theorem z22 : Tryd.prog.cellsOf 22 = 1 := by kernel_rfl
theorem u23 : Tryd.prog.underlying 23 = some (.slice 126) := by kernel_rfl
theorem z23 : Tryd.prog.cellsOf 23 = 1 := by kernel_rfl
theorem u126 : Tryd.prog.underlying 126 = some (.struct (fsOf 126)) := by kernel_rfl
theorem z126 : Tryd.prog.cellsOf 126 = 4 := by kernel_rfl
theorem ln4 {α : Type} {l : List α} (h : l.length = 4) : ∃ v0 v1 v2 v3, l = [v0, v1, v2, v3] := by match l, h with | [v0, v1, v2, v3], _ => exact ⟨v0, v1, v2, v3, rfl⟩
def c126 (x : SMove) : List V := [.int .u8 x.fWhat, .int .u8 x.fFrom, .int .u8 x.fTo, .int .u16 x.fAfter]
def Ok126 (x : SMove) : Prop := (Lit.int .u8 x.fWhat).wf = true ∧ (Lit.int .u8 x.fFrom).wf = true ∧ (Lit.int .u8 x.fTo).wf = true ∧ (Lit.int .u16 x.fAfter).wf = true
theorem rd126 : Rd 126 c126 Ok126 := fun H enc W fuel cs x h => by
 obtain ⟨xs, m, rfl, -, hl, hn, hel⟩ := DataW.trod_struct u126 h
 rw [z126] at hl
 obtain ⟨v0, v1, v2, v3, rfl⟩ := ln4 hl
 obtain ⟨a0, i0, k0⟩ := fld hel hn 0 (t := 5) (o := 0) (by kernel_rfl) z5 (rdInt u5)
 obtain ⟨a1, i1, k1⟩ := fld hel hn 1 (t := 5) (o := 1) (by kernel_rfl) z5 (rdInt u5)
 obtain ⟨a2, i2, k2⟩ := fld hel hn 2 (t := 5) (o := 2) (by kernel_rfl) z5 (rdInt u5)
 obtain ⟨a3, i3, k3⟩ := fld hel hn 3 (t := 22) (o := 3) (by kernel_rfl) z22 (rdInt u22)
 exact ⟨⟨a0, a1, a2, a3⟩, ⟨i0, i1, i2, i3⟩, k0.append (k1.append (k2.append k3))⟩
def Ok23 (l : List SMove) : Prop := ∀ a, a ∈ l → Ok126 a
theorem rd23 : Rd 23 (fun l : List SMove => [.sl false 4 (l.map tySMove.c)]) Ok23 := rdSlice (ty := tySMove) u23 z126 (by omega) (fun _ => rfl) rd126
theorem ln6 {α : Type} {l : List α} (h : l.length = 6) : ∃ v0 v1 v2 v3 v4 v5, l = [v0, v1, v2, v3, v4, v5] := by match l, h with | [v0, v1, v2, v3, v4, v5], _ => exact ⟨v0, v1, v2, v3, v4, v5, rfl⟩
def c25 (x : SDraft) : List V := [.int .u8 x.fMapping, .int .u8 x.fFilter, .int .u8 x.fPorts, .int .u16 x.fTimeout, .bool x.fHairpin, .sl false 4 (List.map tySMove.c x.fMoves)]
def Ok25 (x : SDraft) : Prop := (Lit.int .u8 x.fMapping).wf = true ∧ (Lit.int .u8 x.fFilter).wf = true ∧ (Lit.int .u8 x.fPorts).wf = true ∧ (Lit.int .u16 x.fTimeout).wf = true ∧ True ∧ Ok23 x.fMoves
theorem rd25 : Rd 25 c25 Ok25 := fun H enc W fuel cs x h => by
 obtain ⟨xs, m, rfl, -, hl, hn, hel⟩ := DataW.trod_struct u25 h
 rw [z25] at hl
 obtain ⟨v0, v1, v2, v3, v4, v5, rfl⟩ := ln6 hl
 obtain ⟨a0, i0, k0⟩ := fld hel hn 0 (t := 5) (o := 0) (by kernel_rfl) z5 (rdInt u5)
 obtain ⟨a1, i1, k1⟩ := fld hel hn 1 (t := 5) (o := 1) (by kernel_rfl) z5 (rdInt u5)
 obtain ⟨a2, i2, k2⟩ := fld hel hn 2 (t := 5) (o := 2) (by kernel_rfl) z5 (rdInt u5)
 obtain ⟨a3, i3, k3⟩ := fld hel hn 3 (t := 22) (o := 3) (by kernel_rfl) z22 (rdInt u22)
 obtain ⟨a4, i4, k4⟩ := fld hel hn 4 (t := 4) (o := 4) (by kernel_rfl) z4 (rdBool u4)
 obtain ⟨a5, i5, k5⟩ := fld hel hn 5 (t := 23) (o := 5) (by kernel_rfl) z23 rd23
 exact ⟨⟨a0, a1, a2, a3, a4, a5⟩, ⟨i0, i1, i2, i3, i4, i5⟩, k0.append (k1.append (k2.append (k3.append (k4.append k5))))⟩
def Ok68 (l : List SDraft) : Prop := ∀ a, a ∈ l → Ok25 a
theorem rd68 : Rd 68 (fun l : List SDraft => [.sl false 6 (l.map tySDraft.c)]) Ok68 := rdSlice (ty := tySDraft) u68 z25 (by omega) (fun _ => rfl) rd25
theorem u69 : Tryd.prog.underlying 69 = some (.slice 131) := by kernel_rfl
theorem z69 : Tryd.prog.cellsOf 69 = 1 := by kernel_rfl
theorem u131 : Tryd.prog.underlying 131 = some (.struct (fsOf 131)) := by kernel_rfl
theorem z131 : Tryd.prog.cellsOf 131 = 4 := by kernel_rfl
def c131 (x : SPlace1) : List V := [.int .u8 x.fNat, .int .u8 x.fIp, .int .u8 x.fDelay, .int .u8 x.fLose]
def Ok131 (x : SPlace1) : Prop := (Lit.int .u8 x.fNat).wf = true ∧ (Lit.int .u8 x.fIp).wf = true ∧ (Lit.int .u8 x.fDelay).wf = true ∧ (Lit.int .u8 x.fLose).wf = true
theorem rd131 : Rd 131 c131 Ok131 := fun H enc W fuel cs x h => by
 obtain ⟨xs, m, rfl, -, hl, hn, hel⟩ := DataW.trod_struct u131 h
 rw [z131] at hl
 obtain ⟨v0, v1, v2, v3, rfl⟩ := ln4 hl
 obtain ⟨a0, i0, k0⟩ := fld hel hn 0 (t := 5) (o := 0) (by kernel_rfl) z5 (rdInt u5)
 obtain ⟨a1, i1, k1⟩ := fld hel hn 1 (t := 5) (o := 1) (by kernel_rfl) z5 (rdInt u5)
 obtain ⟨a2, i2, k2⟩ := fld hel hn 2 (t := 5) (o := 2) (by kernel_rfl) z5 (rdInt u5)
 obtain ⟨a3, i3, k3⟩ := fld hel hn 3 (t := 5) (o := 3) (by kernel_rfl) z5 (rdInt u5)
 exact ⟨⟨a0, a1, a2, a3⟩, ⟨i0, i1, i2, i3⟩, k0.append (k1.append (k2.append k3))⟩
def Ok69 (l : List SPlace1) : Prop := ∀ a, a ∈ l → Ok131 a
theorem rd69 : Rd 69 (fun l : List SPlace1 => [.sl false 4 (l.map tySPlace1.c)]) Ok69 := rdSlice (ty := tySPlace1) u69 z131 (by omega) (fun _ => rfl) rd131
theorem u70 : Tryd.prog.underlying 70 = some (.slice 82) := by kernel_rfl
theorem z70 : Tryd.prog.cellsOf 70 = 1 := by kernel_rfl
theorem u82 : Tryd.prog.underlying 82 = some (.struct (fsOf 82)) := by kernel_rfl
theorem z82 : Tryd.prog.cellsOf 82 = 5 := by kernel_rfl
theorem ln5 {α : Type} {l : List α} (h : l.length = 5) : ∃ v0 v1 v2 v3 v4, l = [v0, v1, v2, v3, v4] := by match l, h with | [v0, v1, v2, v3, v4], _ => exact ⟨v0, v1, v2, v3, v4, rfl⟩
def c82 (x : SSending) : List V := [.int .u8 x.fHost, .int .u8 x.fPort, .int .u8 x.fTo, .int .u16 x.fAfter, .bool x.fStep]
def Ok82 (x : SSending) : Prop := (Lit.int .u8 x.fHost).wf = true ∧ (Lit.int .u8 x.fPort).wf = true ∧ (Lit.int .u8 x.fTo).wf = true ∧ (Lit.int .u16 x.fAfter).wf = true ∧ True
theorem rd82 : Rd 82 c82 Ok82 := fun H enc W fuel cs x h => by
 obtain ⟨xs, m, rfl, -, hl, hn, hel⟩ := DataW.trod_struct u82 h
 rw [z82] at hl
 obtain ⟨v0, v1, v2, v3, v4, rfl⟩ := ln5 hl
 obtain ⟨a0, i0, k0⟩ := fld hel hn 0 (t := 5) (o := 0) (by kernel_rfl) z5 (rdInt u5)
 obtain ⟨a1, i1, k1⟩ := fld hel hn 1 (t := 5) (o := 1) (by kernel_rfl) z5 (rdInt u5)
 obtain ⟨a2, i2, k2⟩ := fld hel hn 2 (t := 5) (o := 2) (by kernel_rfl) z5 (rdInt u5)
 obtain ⟨a3, i3, k3⟩ := fld hel hn 3 (t := 22) (o := 3) (by kernel_rfl) z22 (rdInt u22)
 obtain ⟨a4, i4, k4⟩ := fld hel hn 4 (t := 4) (o := 4) (by kernel_rfl) z4 (rdBool u4)
 exact ⟨⟨a0, a1, a2, a3, a4⟩, ⟨i0, i1, i2, i3, i4⟩, k0.append (k1.append (k2.append (k3.append k4)))⟩
def Ok70 (l : List SSending) : Prop := ∀ a, a ∈ l → Ok82 a
theorem rd70 : Rd 70 (fun l : List SSending => [.sl false 5 (l.map tySSending.c)]) Ok70 := rdSlice (ty := tySSending) u70 z82 (by omega) (fun _ => rfl) rd82
theorem ln3 {α : Type} {l : List α} (h : l.length = 3) : ∃ v0 v1 v2, l = [v0, v1, v2] := by match l, h with | [v0, v1, v2], _ => exact ⟨v0, v1, v2, rfl⟩
def c72 (x : SDraft1) : List V := [.sl false 6 (List.map tySDraft.c x.fNats), .sl false 4 (List.map tySPlace1.c x.fHosts), .sl false 5 (List.map tySSending.c x.fSent)]
def Ok72 (x : SDraft1) : Prop := Ok68 x.fNats ∧ Ok69 x.fHosts ∧ Ok70 x.fSent
theorem rd72 : Rd 72 c72 Ok72 := fun H enc W fuel cs x h => by
 obtain ⟨xs, m, rfl, -, hl, hn, hel⟩ := DataW.trod_struct u72 h
 rw [z72] at hl
 obtain ⟨v0, v1, v2, rfl⟩ := ln3 hl
 obtain ⟨a0, i0, k0⟩ := fld hel hn 0 (t := 68) (o := 0) (by kernel_rfl) z68 rd68
 obtain ⟨a1, i1, k1⟩ := fld hel hn 1 (t := 69) (o := 1) (by kernel_rfl) z69 rd69
 obtain ⟨a2, i2, k2⟩ := fld hel hn 2 (t := 70) (o := 2) (by kernel_rfl) z70 rd70
 exact ⟨⟨a0, a1, a2⟩, ⟨i0, i1, i2⟩, k0.append (k1.append k2)⟩
end Go.Proofs.YtdiagiflihpidaaDoor
namespace Go.Proofs.YtdiagiflihpidaaDoor
open Go Go.EV
set_option maxRecDepth 100000
theorem sending_of {x : SSending} (h : Ok82 x) : SendingOk x := ⟨w8_iff h.1, w8_iff h.2.1, w8_iff h.2.2.1, w16_iff h.2.2.2.1⟩
theorem draftW_of {d : SDraft1} (h : Ok72 d) : DraftW d :=
 ⟨fun x hx => ⟨(w8_iff (h.1 x hx).1).1, (w8_iff (h.1 x hx).2.1).1, (w8_iff (h.1 x hx).2.2.1).1, (w16_iff (h.1 x hx).2.2.2.1).1⟩,
  fun p hp => ⟨w8_iff (h.2.1 p hp).1, w8_iff (h.2.1 p hp).2.1, w8_iff (h.2.1 p hp).2.2.1, w8_iff (h.2.1 p hp).2.2.2⟩, fun x hx => sending_of (h.2.2 x hx)⟩
end Go.Proofs.YtdiagiflihpidaaDoor
namespace Go.Proofs.YtdiagiflihpidaaDoor
open Go Go.EV Go.ChangeShapes Go.WideShapes Go.ChangeAt Go.RowKit
set_option maxRecDepth 100000
theorem calls13 {w : World} (h : laidMetH Tryd.prog laid1 w) {v0 : Value} {x0 : SDraft1} (hd : DraftW x0)
  (r0 : Rep (gh0 w) w (ofL []) uTop (.agg (c72 x0)) v0) :
  Calls Tryd.prog 13 #[v0] w fun e w' => e = .returned (.bool true) ∧ ∃ γ', Grow (gh0 w) w γ' w' := by
 have c : CallC Tryd.prog GG 13 [.agg (c72 x0)] (ofL []) (.bool true) (ofL []) := (s13 x0).ok true (SOk.eq (ok13 x0 hd))
 refine (c (gh0 w) w #[v0] (globOk h) (fun B x hx => by simp [gh0] at hx) ⟨rfl, fun i c v hc hv => ?_⟩ (fun b k hb => by simp [ofL] at hb)).mono fun e w' hq => ?_
 ·match i, hc, hv with
  | 0, hc, hv => simp at hc hv; subst hc; subst hv; exact r0
  | n + 1, hc, hv => simp at hc
 ·obtain ⟨v, γ', rfl, hg, _, hr, _⟩ := hq
  have := hr.bool_inv
  subst this
  exact ⟨rfl, γ', hg⟩
noncomputable def zero13 : Array Value := #[.agg #[.slice none 0 0, .slice none 0 0, .slice none 0 0]]
theorem lifted13 (os : Os) (started : os.Started) (H : Type) (enc : TypeId × Value → H) :
  ReturnsInHanded {} Tryd.checked os 13 .any (fun w args => (Rows.networkSingleSpec.pre enc Tryd.prog Tryd.f13 [] false w args ∧ laidMetH Tryd.prog laid1 w) ∧ sizedMet enc Tryd.prog Tryd.f13 (OpenSpec.ofChange Rows.networkSingleSpec) false w args)
   (Rows.networkSingleSpec.post enc Tryd.prog Tryd.f13 false true false false) := by
 refine returnsInHanded_of_change_and (C := Tryd.checked) (X := fun w _ => laidMetH Tryd.prog laid1 w) (fun _ _ _ hh h => h.of_heap hh) own started (by kernel_rfl) Tryd.func13
  (ChangeSpec.witness_shaped (enc := enc) (C := Tryd.checked) (os := os) (X := fun w _ => laidMetH Tryd.prog laid1 w) false (World.doorLaid Tryd.prog 14 os) zero13 8 rfl (World.shaped_of_RefB (by kernel_rfl) (by kernel_rfl)) (by kernel_rfl) (by kernel_rfl) (by kernel_rfl) (door_met os _)) ?_
 intro W base args ds gs before hval0 hW _ _ hL _
 have hval : ∀ (j : Nat) t v, Tryd.f13.params[j]? = some t → args[j]? = some v → Value.okWide Tryd.prog W .any base t v := hval0
 have hW' := hW
 have hlt0 := DataW.Whole.lt hW
 obtain ⟨p, q, hA0, hV, rfl, hfz, hnd⟩ := hW
 have hA : DataW.TrodAll enc Tryd.prog W 0 (fun _ => true) true Tryd.f13.params.toList args.toList ds p := hA0
 rw [Tryd.params13] at hA hval
 obtain ⟨rfl, rfl⟩ := trodVars_none hV
 obtain ⟨v0, d0, rfl, rfl, h0⟩ := trodAll_one hA
 obtain ⟨x0, i0, r0⟩ := open_agg rd72 (agg_struct u72 (hval 0 72 v0 rfl rfl)) h0
 refine (calls13 hL (draftW_of i0) r0).mono fun e W' ⟨he, γ', hg⟩ => ?_
 subst he
 have hb := below_of_grow hg
 refine ⟨_, rfl, [d0], [], _, [], p, [], hW', trodAll_mk1 (shut_bool u4 true), ?_, rfl, keptBut_of_grow hg _, fun h => by cases h⟩
 show DataW.TrodAll enc Tryd.prog W' 0 (fun b => decide (b < W.heap.size)) true Tryd.f13.params.toList [v0] [d0] _
 rw [Tryd.params13]
 exact trodAll_mk1
  (Below.trod laidOut (by kernel_rfl) (of_decide_eq_true (by kernel_rfl)) h0 hb (fun x hx => hlt0 x (by simp [hx])))
theorem holds13 : Rows.NetworkSingleSaid :=
 OpenClaim.holds_of_wide 13 Tryd.f13 rfl rfl rfl rfl rfl rfl rfl ⟨rfl, rfl, rfl, rfl, rfl⟩ rfl rfl rfl rfl rfl (by kernel_rfl) Tryd.func13 (by kernel_rfl)
  (of_decide_eq_true (by kernel_rfl)) (by unfold Func.isWrapper; first | (rw [if_pos (by decide +kernel)]; kernel_rfl) | (rw [if_neg (by decide +kernel)]; exact ⟨rfl, rfl⟩))
  (fun os started H enc _ => lifted13 os started H enc)
theorem networkSingle_card : Rows.NetworkSingleCardSaid :=
 Claim7.holds_tied_plain_at .later [] [.funcs] true (true, "d9d31fb8dbcb4dca77f16e6eba1af0d680b8feeef2c2c067e149d5f1543ab3eb") false
  holds13 (fun _ h => by cases h) (by kernel_rfl) (fun _ h => by cases h) networkSingle_row_tie rfl ⟨rfl, rfl⟩ (by kernel_rfl) rfl
  (fun f fn hf hfn => by
   obtain rfl : f = 13 := Option.some.inj ((show Tryd.prog.funcNamed "tannoy/tannoylaw14.NetworkSingle" = some 13 by kernel_rfl).symm.trans hf) |>.symm
   obtain rfl : fn = Tryd.f13 := (Option.some.inj (Tryd.func13.symm.trans hfn)).symm
   exact ⟨by kernel_rfl, fun j t ht => by
    rw [Tryd.params13] at ht
    have hm : t ∈ [72] := by simpa using Array.mem_of_getElem? ht
    have hall : ([72].all fun u => !Tryd.prog.wantsStandIn u) = true := by kernel_rfl
    exact (show Tryd.prog.wantsStandIn t = false by simpa using List.all_eq_true.1 hall t hm)⟩)
  (by kernel_rfl)
end Go.Proofs.YtdiagiflihpidaaDoor
