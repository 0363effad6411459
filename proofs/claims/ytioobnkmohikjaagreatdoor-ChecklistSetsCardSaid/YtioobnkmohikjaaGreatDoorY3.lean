/- The value-level logic: what an operation's working hangs on, computed; so the plan of a region that draws its order is computed.
   The value-level logic: a call whose arguments are seen as data: pointers into local blocks as pointers to what stands there, local slices as their rows; the result looks at no memory.
   The value-level logic: a call by contract whose arguments and results may lie in local blocks: the callee's ids are told apart from the caller's by a renaming.
   The value-level logic: what an operation that is told looks at; the states along a plan.
   The value-level logic: operations that are told: what has to be shown of each kind.
   The value-level logic: operations that are told: append, and calls whose arguments are seen as data.
   The value-level logic: a local block given up: from here on its cells are immutable, and slices of it are data.
   The value-level logic: operations that are told: calls whose arguments and results lie in local blocks.
   The value-level logic: postconditions as lists of frames, sub-codes by their paths, loops unrolled.
   The value-level logic: steps that change only how a state is told: a nil slice told as a slice of a block without rows.
   The value-level logic: a local slice laid into a cell with the right to its block, and taken out again; no conditions.
   The value-level logic: a slice that stands in a cell with its right, taken out as a local slice when it is loaded; no conditions. -/
import Derived.Test.YtioobnkmohikjaaGreatDoorY2
import Derived.KernelRfl
namespace Go.EV
open Go
def LookLe (a b : Nat → Option Blk) : Prop := ∀ i k, a i = some k → b i = some k
theorem eqV_mono {P : Program} {l1 l2 : Nat → Option Blk} (h : LookLe l1 l2) {t : TypeId} {x y : V} {r : Bool} (he : eqV P l1 t x y = some r) : eqV P l2 t x y = some r := by
 unfold eqV at he ⊢
 split at he <;> try exact he
 ·rename_i b i off
  cases hb : l1 b with
  | none => rw [hb] at he; simp at he
  | some k => rw [hb] at he; rw [h b k hb]; exact he
 ·rename_i b off n
  cases hb : l1 b with
  | none => rw [hb] at he; simp at he
  | some k => rw [hb] at he; rw [h b k hb]; exact he
theorem binV_mono {P : Program} {l1 l2 : Nat → Option Blk} (h : LookLe l1 l2) {op : BinOp} {t : TypeId} {x y c : V} (he : binV P l1 op t x y = some c) : binV P l2 op t x y = some c := by
 unfold binV at he ⊢
 split at he <;> try exact he
 split at he
 ·obtain ⟨r, h1, h2⟩ := Option.map_eq_some_iff.1 he
  rw [eqV_mono h h1]; exact congrArg some h2
 ·obtain ⟨r, h1, h2⟩ := Option.map_eq_some_iff.1 he
  rw [eqV_mono h h1]; exact congrArg some h2
 ·simp at he
theorem cellsV_mono {l1 l2 : Nat → Option Blk} (h : LookLe l1 l2) {c : V} {cs : List V} (he : cellsV l1 c = some cs) : cellsV l2 c = some cs := by
 unfold cellsV at he ⊢
 split at he <;> try exact he
 rename_i b i off
 cases hb : l1 b with
 | none => rw [hb] at he; simp at he
 | some k => rw [hb] at he; rw [h b k hb]; exact he
theorem loadV_mono {P : Program} {l1 l2 : Nat → Option Blk} (h : LookLe l1 l2) {t : TypeId} {c d : V} (he : loadV P l1 t c = some d) : loadV P l2 t c = some d := by
 unfold loadV at he ⊢
 obtain ⟨cs, h1, h2⟩ := Option.bind_eq_some_iff.1 he
 rw [cellsV_mono h h1]; exact h2
theorem fieldAddrV_mono {P : Program} {l1 l2 : Nat → Option Blk} (h : LookLe l1 l2) {s : TypeId} {c d : V} {f : Nat} (he : fieldAddrV P l1 s c f = some d) : fieldAddrV P l2 s c f = some d := by
 unfold fieldAddrV at he ⊢
 split at he <;> try exact he
 split at he <;> try exact he
 split at he <;> try exact he
 split at he
 ·simp at he
 rename_i hz
 rw [if_neg hz]
 split at he <;> try exact he
 rename_i b r off
 cases hb : l1 b with
 | none => rw [hb] at he; simp at he
 | some k => rw [hb] at he; simp only [h b k hb]; exact he
theorem indexAddrV_mono {P : Program} {l1 l2 : Nat → Option Blk} (h : LookLe l1 l2) {t : TypeId} {c x d : V} (he : indexAddrV P l1 t c x = some d) : indexAddrV P l2 t c x = some d := by
 unfold indexAddrV at he ⊢
 split at he <;> try exact he
 split at he <;> try exact he
 ·split at he <;> try exact he
  split at he
  rotate_left
  ·simp at he
  rename_i hb
  rw [if_pos hb]
  split at he <;> try exact he
  rename_i b r off
  cases hb : l1 b with
  | none => rw [hb] at he; simp at he
  | some k => rw [hb] at he; simp only [h b k hb]; exact he
 ·split at he <;> try exact he
  split at he <;> try exact he
  rename_i b off len
  cases hb : l1 b with
  | none => rw [hb] at he; simp at he
  | some k => rw [hb] at he; simp only [h b k hb]; exact he
theorem sliceV_mono {P : Program} {l1 l2 : Nat → Option Blk} (h : LookLe l1 l2) {t : TypeId} {c d : V} {lo hi mx : Option V} (he : sliceV P l1 t c lo hi mx = some d) : sliceV P l2 t c lo hi mx = some d := by
 unfold sliceV at he ⊢
 split at he <;> try exact he
 split at he <;> try exact he
 split at he <;> try exact he
 rename_i b off len
 cases hb : l1 b with
 | none => rw [hb] at he; simp at he
 | some k => rw [hb] at he; simp only [h b k hb]; exact he
theorem lenV_mono {P : Program} {l1 l2 : Nat → Option Blk} (h : LookLe l1 l2) {t : TypeId} {c d : V} (he : lenV P l1 t c = some d) : lenV P l2 t c = some d := by
 unfold lenV at he ⊢
 split at he <;> try exact he
 rename_i b off len _
 cases hb : l1 b with
 | none => rw [hb] at he; simp at he
 | some k => rw [hb] at he; simp only [h b k hb]; exact he
theorem convL_mono {P : Program} {l1 l2 : Nat → Option Blk} (h : LookLe l1 l2) {s t : TypeId} {c d : V} (he : convL P l1 s t c = some d) : convL P l2 s t c = some d := by
 unfold convL at he ⊢
 split at he <;> try exact he
 split at he <;> try exact he
 split at he <;> try exact he
 rename_i b off len _ _ _ _ _ _ _
 cases hb : l1 b with
 | none => rw [hb] at he; simp at he
 | some k => rw [hb] at he; simp only [h b k hb]; exact he
theorem readV_mono {P : Program} {e : Operand → Option V} {l1 l2 : Nat → Option Blk} (h : LookLe l1 l2) {op : Op} {c : V} (he : readV P e l1 op = some c) : readV P e l2 op = some c := by
 unfold readV at he ⊢
 split at he <;> try exact he
 ·
  split at he <;> try exact he
  rename_i b i off hx
  cases hb : l1 b with
  | none => rw [hb] at he; simp at he
  | some k => rw [hb] at he; simp only [h b k hb]; exact he
 ·split at he <;> try exact he
  exact binV_mono h he
 ·obtain ⟨d, h1, h2⟩ := Option.bind_eq_some_iff.1 he
  rw [h1]; exact convL_mono h h2
 ·obtain ⟨d, h1, h2⟩ := Option.bind_eq_some_iff.1 he
  rw [h1]; exact loadV_mono h h2
 ·obtain ⟨d, h1, h2⟩ := Option.bind_eq_some_iff.1 he
  rw [h1]; exact fieldAddrV_mono h h2
 ·split at he <;> try exact he
  exact indexAddrV_mono h he
 ·split at he <;> try exact he
  exact sliceV_mono h he
 ·obtain ⟨d, h1, h2⟩ := Option.bind_eq_some_iff.1 he
  rw [h1]
  simp only [Option.bind_some]
  unfold builtinV at h2 ⊢
  split at h2 <;> try exact h2
  exact lenV_mono h h2
def opTemps (o : Oper) : List Nat := o.op.operands.toList.filterMap fun | .tmp t => some t | _ => none
mutual
def refsV : V → List Nat
 | .ref b _ _ => [b]
 | .ptr b _ _ => [b]
 | .mp b => [b]
 | .fn _ a c => refsL a ++ refsL c
 | .agg l => refsL l
 | .tup l => refsL l
 | _ => []
def refsL : List V → List Nat
 | [] => []
 | c :: l => refsV c ++ refsL l
end
def St.cutT (st : St) (ts : List Nat) : St := { st with t := fun i => if ts.contains i then st.t i else .undef }
def cutB (b : Nat → Option Blk) (bs : List Nat) : Nat → Option Blk := fun i => if bs.contains i then b i else none
theorem cutB_le (b : Nat → Option Blk) (bs : List Nat) : LookLe (cutB b bs) b := fun i k h => by
 unfold cutB at h; split at h
 ·exact h
 ·simp at h
theorem Sim.cutT {G : Nat → Option (List V)} {γ : Gh} {st : St} {tmps : Array Value} {w : World} (h : Sim G γ st tmps w) (ts : List Nat) : Sim G γ (st.cutT ts) tmps w :=
 ⟨h.n, fun i => by
  show Rep γ w st.b st.u (if ts.contains i then st.t i else .undef) _
  split
  ·exact h.t i
  ·exact .undef _, h.b, h.u, h.g, h.o⟩
def guardLocs (ops : Array Oper) (o : Oper) : List Loc :=
 match o.guard with
 | none => []
 | some (j, _) => match (ops[j]?).bind (·.dst) with
  | some d => [.t d]
  | none => []
def dstW (dst : Option Nat) (c : V) : List Wr := match dst with | some d => [.t d c] | none => []
theorem app_dstW (st : St) (dst : Option Nat) (c : V) : st.app (dstW dst c) = st.put dst c := by cases dst <;> rfl
def effW (P : Program) (G : Nat → Option (List V)) (o : Oper) (st : St) (bs : List Nat) : Option (List Wr) :=
 match o.op, o.dst with
 | .alloc e, some d => if d < st.n ∧ st.u d = false then (zeroV P e).map fun cs => [.b d (some ⟨cs.length, true, [cs]⟩), .t d (.ptr d 0 0)] else none
 | .box _ x, some d => if d < st.n ∧ st.u d = false then ((st.ev G x).bind boxV).map fun cs => [.b d (some ⟨cs.length, true, [cs]⟩), .t d (.ptr d 0 0)] else none
 | .store t x y, none => match st.ev G x, st.ev G y with
  | some (.ptr b i off), some c => match cutB st.b bs b with
   | some k => (storeBlkV P t k i off c).map fun k' => [.b b (some k')]
   | none => none
  | _, _ => none
 | .buildSlice t n ps, some d => if d < st.n ∧ st.u d = false then ((evParts (st.ev G) ps.toList).bind (buildSliceV P t n)).map fun k => [.b d (some k), .t d (.ref d 0 n)] else none
 | op, dst => if dstOk st.n dst then (readV P (st.ev G) (cutB st.b bs) op).map (dstW dst) else none
theorem effW_spec {P : Program} {G : Nat → Option (List V)} {o : Oper} {st : St} {ts bs : List Nat} {ws : List Wr} (h : effW P G o (st.cutT ts) bs = some ws) : EffO P G o st (st.app ws) := by
 unfold effW at h
 split at h
 ·rename_i e d ho hd
  split at h
  ·rename_i hc
   obtain ⟨cs, hz, rfl⟩ := Option.map_eq_some_iff.1 h
   exact effO_alloc ho hd hc.1 hc.2 hz
  ·simp at h
 ·rename_i e x d ho hd
  split at h
  ·rename_i hc
   obtain ⟨cs, hz, rfl⟩ := Option.map_eq_some_iff.1 h
   obtain ⟨c, h1, h2⟩ := Option.bind_eq_some_iff.1 hz
   refine effO_value fun γ a w hs => ?_
   obtain ⟨k1, k2⟩ := boxV_spec h2 ((hs.cutT ts).ev h1)
   obtain ⟨γ', g, pn, hs'⟩ := hs.newBox (e := e) (smallL_spec h2).2 hc.2 hc.1 k1 k2
   refine ⟨_, _, γ', ?_, g, pn, by rw [hd]; exact hs'⟩
   simp [execOp, ho, Instr.box, newVar, newRow]
  ·simp at h
 ·rename_i t x y ho hd
  split at h
  ·rename_i b i off c hx hy
   split at h
   ·rename_i k hk
    obtain ⟨k', hs', rfl⟩ := Option.map_eq_some_iff.1 h
    have hk' := cutB_le _ _ _ _ hk
    exact effO_store' ho hd (fun _ _ _ hs => (hs.cutT ts).ev hx) (fun _ _ _ hs => (hs.cutT ts).ev hy) hk' hs'
   ·simp at h
  ·simp at h
 ·rename_i t n ps d ho hd
  split at h
  ·rename_i hc
   obtain ⟨k, hz, rfl⟩ := Option.map_eq_some_iff.1 h
   obtain ⟨parts, h1, h2⟩ := Option.bind_eq_some_iff.1 hz
   exact effO_buildSlice' ho hd hc.1 hc.2 (fun _ _ _ hs => evParts_rep (hs.cutT ts) h1) h2
  ·simp at h
 ·rename_i op dst
  split at h
  ·rename_i hd
   obtain ⟨c, hr, rfl⟩ := Option.map_eq_some_iff.1 h
   rw [app_dstW]
   exact effO_pure hd fun γ a w hs => run_readV (hs.cutT ts) (readV_mono (cutB_le _ _) hr)
  ·simp at h
def opBl (o : Oper) (l : List Nat) : List Nat := match o.op with
 | .move _ => []
 | .assign _ => []
 | _ => l
def stepRW (P : Program) (G : Nat → Option (List V)) (ops : Array Oper) (i : Nat) (st : St) : Option (List Loc × List Wr) :=
 match ops[i]? with
 | none => some ([], [])
 | some o => match guardV ops st o with
  | some true =>
   let ts := opTemps o
   let bs := opBl o (ts.flatMap fun t => refsV (st.t t))
   (effW P G o (st.cutT ts) bs).map fun ws => (guardLocs ops o ++ ts.map .t ++ bs.map .b ++ (match o.dst with | some d => [.b d] | none => []), ws)
  | some false => if dstOk st.n o.dst then some (guardLocs ops o, dstW o.dst (.tup [])) else none
  | none => none
theorem guardV_local {ops : Array Oper} {st st2 : St} {o : Oper} (hn : st2.n = st.n) (h : ∀ l, l ∈ guardLocs ops o → eqAt st st2 l) : guardV ops st2 o = guardV ops st o := by
 unfold guardV
 unfold guardLocs at h
 cases hg : o.guard with
 | none => rfl
 | some x =>
  obtain ⟨j, want⟩ := x
  rw [hg] at h
  simp only at h ⊢
  cases hd : (ops[j]?).bind (·.dst) with
  | none => rfl
  | some d =>
   rw [hd] at h
   have : st.t d = st2.t d := h (.t d) (by simp)
   simp only [hn, this]
theorem stepRW_spec {P : Program} {G : Nat → Option (List V)} {ops : Array Oper} {i : Nat} {st : St} {R : List Loc} {ws : List Wr} (h : stepRW P G ops i st = some (R, ws)) : StepL P G ops i st R ws := by
 intro st2 hn hag
 unfold stepRW at h
 unfold StepV
 split at h
 ·rename_i hi
  simp only [Option.some.injEq, Prod.mk.injEq] at h
  obtain ⟨rfl, rfl⟩ := h
  rw [hi]; rfl
 ·rename_i o hi
  rw [hi]
  split at h
  ·rename_i hg
   obtain ⟨ws', hw, he⟩ := Option.map_eq_some_iff.1 h
   simp only [Prod.mk.injEq] at he
   obtain ⟨rfl, rfl⟩ := he
   have hg2 : guardV ops st2 o = some true := by rw [guardV_local hn (fun l hl => hag l (by simp [hl]))]; exact hg
   refine .inl ⟨hg2, ?_⟩
   have ht : ∀ t, t ∈ opTemps o → st.t t = st2.t t := fun t ht => hag (.t t) (by simp [ht])
   have hbs : opBl o ((opTemps o).flatMap fun t => refsV (st.t t)) = opBl o ((opTemps o).flatMap fun t => refsV (st2.t t)) := by
    congr 1
    rw [List.flatMap_def, List.flatMap_def]
    congr 1
    exact List.map_congr_left fun t h => by rw [ht t h]
   have hcutT : (st.cutT (opTemps o)).t = (st2.cutT (opTemps o)).t := funext fun j => by
    show (if (opTemps o).contains j then st.t j else .undef) = (if (opTemps o).contains j then st2.t j else .undef)
    split
    ·rename_i hc; exact ht j (by simpa using hc)
    ·rfl
   have hcutB : cutB st.b (opBl o ((opTemps o).flatMap fun t => refsV (st.t t))) = cutB st2.b (opBl o ((opTemps o).flatMap fun t => refsV (st.t t))) := funext fun j => by
    unfold cutB
    split
    ·rename_i hc
     have : eqAt st st2 (.b j) := hag (.b j) (by
      have : j ∈ opBl o ((opTemps o).flatMap fun t => refsV (st.t t)) := by simpa using hc
      simp only [List.mem_append, List.mem_map]
      exact .inl (.inr ⟨j, this, rfl⟩))
     exact this.1
    ·rfl
   have hud : ∀ d, o.dst = some d → st.u d = st2.u d := fun d hd => by
    have : eqAt st st2 (.b d) := hag (.b d) (by rw [hd]; simp)
    exact this.2
   have hev : (st2.cutT (opTemps o)).ev G = (st.cutT (opTemps o)).ev G := funext fun x => by
    cases x <;> simp only [St.ev]
    rw [hcutT]
   have key : effW P G o (st2.cutT (opTemps o)) (opBl o ((opTemps o).flatMap fun t => refsV (st.t t))) = some ws' := by
    rw [← hw]
    unfold effW
    have e1 : (st2.cutT (opTemps o)).n = (st.cutT (opTemps o)).n := hn
    have e2 : cutB (st2.cutT (opTemps o)).b (opBl o ((opTemps o).flatMap fun t => refsV (st.t t))) = cutB (st.cutT (opTemps o)).b (opBl o ((opTemps o).flatMap fun t => refsV (st.t t))) := hcutB.symm
    rw [hev, e1, e2]
    cases hd : o.dst with
    | none => cases o.op <;> rfl
    | some d =>
     have e3 : (st2.cutT (opTemps o)).u d = (st.cutT (opTemps o)).u d := (hud d hd).symm
     cases o.op <;> simp only [e3]
   exact effW_spec key
  ·rename_i hg
   split at h <;> simp at h
   rename_i hd
   obtain ⟨rfl, rfl⟩ := h
   exact .inr ⟨by rw [guardV_local hn hag]; exact hg, by rw [hn]; exact hd, app_dstW _ _ _⟩
  ·simp at h
end Go.EV
namespace Go.EV
open Go
def mapO {α β : Type} (f : α → Option β) : List α → Option (List β)
 | [] => some []
 | x :: l => match f x, mapO f l with
  | some y, some r => some (y :: r)
  | _, _ => none
theorem mapO_len {α β : Type} {f : α → Option β} : ∀ {l : List α} {r : List β}, mapO f l = some r → r.length = l.length
 | [], r, h => by simp [mapO] at h; subst h; rfl
 | x :: l, r, h => by
  simp only [mapO] at h
  split at h
  ·rename_i y r' h1 h2
   simp only [Option.some.injEq] at h; subst h
   simp [mapO_len h2]
  ·simp at h
theorem mapO_get {α β : Type} {f : α → Option β} : ∀ {l : List α} {r : List β}, mapO f l = some r → ∀ (i : Nat) (y : β), r[i]? = some y → ∃ x, l[i]? = some x ∧ f x = some y
 | [], r, h, i, y, hy => by simp [mapO] at h; subst h; simp at hy
 | x :: l, r, h, i, y, hy => by
  simp only [mapO] at h
  split at h
  ·rename_i y' r' h1 h2
   simp only [Option.some.injEq] at h; subst h
   cases i with
   | zero => simp at hy; subst hy; exact ⟨x, rfl, h1⟩
   | succ i =>
    obtain ⟨x', a, b⟩ := mapO_get h2 i y (by simpa using hy)
    exact ⟨x', by simpa using a, b⟩
  ·simp at h
theorem mapO_congr {α β : Type} {f g : α → Option β} : ∀ {l : List α} {r : List β}, mapO f l = some r → (∀ x y, f x = some y → g x = some y) → mapO g l = some r
 | [], r, h, _ => h
 | x :: l, r, h, hg => by
  simp only [mapO] at h ⊢
  split at h
  ·rename_i y r' h1 h2
   rw [hg x y h1, mapO_congr h2 hg]; exact h
  ·simp at h
def dcell : V → Bool
 | .fn _ a c => a.isEmpty && c.isEmpty
 | .agg _ | .tup _ | .undef | .ref _ _ _ | .ptr _ _ _ | .mp _ => false
 | _ => true
def onlyCell (c : Option V) : Option V := match c with
 | some d => if dcell d then some d else none
 | none => none
theorem onlyCell_some {c : Option V} {d : V} (h : onlyCell c = some d) : c = some d ∧ dcell d = true := by
 unfold onlyCell at h
 split at h
 ·split at h <;> simp at h
  rename_i hd
  subst h; exact ⟨rfl, hd⟩
 ·simp at h
def viewV (look : Nat → Option Blk) : Nat → V → Option V
 | 0, _ => none
 | _ + 1, .int k n => some (.int k n)
 | _ + 1, .bool b => some (.bool b)
 | _ + 1, .str s => some (.str s)
 | _ + 1, .nilp => some .nilp
 | _ + 1, .nilf => some .nilf
 | _ + 1, .yld l => some (.yld l)
 | _ + 1, .nilsl => some .nilsl
 | _ + 1, .sl _ s r => some (.sl false s r)
 | _ + 1, .snap c => some (.snap c)
 | n + 1, .ref b off len => match look b with
  | some k => (mapO (mapO fun c => onlyCell (viewV look n c)) ((k.rows.drop off).take len)).map (.sl false k.size)
  | none => none
 | n + 1, .ptr b i off => match look b with
  | some k => match k.rows[i]? with
   | some r => (mapO (fun c => onlyCell (viewV look n c)) (r.drop off)).map .snap
   | none => none
  | none => none
 | n + 1, .fn f a c => match mapO (viewV look n) a, mapO (viewV look n) c with
  | some a', some c' => some (.fn f a' c')
  | _, _ => none
 | n + 1, .agg l => (mapO (viewV look n) l).map .agg
 | n + 1, .tup l => (mapO (viewV look n) l).map .tup
 | _ + 1, .undef => none
 | _ + 1, .mp _ => none
theorem onlyCell_congr {f g : V → Option V} (h : ∀ x y, f x = some y → g x = some y) (x y : V) (hx : onlyCell (f x) = some y) : onlyCell (g x) = some y := by
 obtain ⟨h1, h2⟩ := onlyCell_some hx
 unfold onlyCell; rw [h x y h1]; simp [h2]
theorem viewV_mono {l1 l2 : Nat → Option Blk} (h : LookLe l1 l2) : ∀ (n : Nat) (c d : V), viewV l1 n c = some d → viewV l2 n c = some d
 | 0, _, _, h => by simp [viewV] at h
 | n + 1, c, d, hd => by
  have ih := viewV_mono h n
  cases c <;> simp only [viewV] at hd ⊢ <;> try exact hd
  case ref b off len =>
   cases hb : l1 b with
   | none => rw [hb] at hd; simp at hd
   | some k =>
    rw [hb] at hd; rw [h b k hb]
    simp only at hd ⊢
    obtain ⟨r, h1, h2⟩ := Option.map_eq_some_iff.1 hd
    rw [mapO_congr h1 fun x y hx => mapO_congr hx (onlyCell_congr ih)]; exact congrArg some h2
  case ptr b i off =>
   cases hb : l1 b with
   | none => rw [hb] at hd; simp at hd
   | some k =>
    rw [hb] at hd; rw [h b k hb]
    simp only at hd ⊢
    split at hd
    ·obtain ⟨r, h1, h2⟩ := Option.map_eq_some_iff.1 hd
     rw [mapO_congr h1 (onlyCell_congr ih)]; exact congrArg some h2
    ·simp at hd
  case fn f a c =>
   split at hd
   ·rename_i a' c' h1 h2
    rw [mapO_congr h1 ih, mapO_congr h2 ih]; exact hd
   ·simp at hd
  case agg l =>
   obtain ⟨r, h1, h2⟩ := Option.map_eq_some_iff.1 hd
   rw [mapO_congr h1 ih]; exact congrArg some h2
  case tup l =>
   obtain ⟨r, h1, h2⟩ := Option.map_eq_some_iff.1 hd
   rw [mapO_congr h1 ih]; exact congrArg some h2
def limAll (w : World) (B : Nat) : Nat := match w.heap[B]? with | some (.cells cs _ _) => cs.size | _ => 0
theorem limAll_of {w : World} {B o : Nat} {v : Value} (h : cellAt w B o = some v) : o < limAll w B := by
 unfold cellAt World.cell? at h
 unfold limAll
 split at h
 ·rename_i cs e fz hc
  simp only [Option.isSome_none, Bool.false_eq_true, if_false] at h
  simp only at hc
  rw [hc]
  exact (Array.getElem?_eq_some_iff.1 h).1
 ·simp at h
def ghAll (w : World) : Gh := { loc := fun _ => none, own := fun _ => none, lim := limAll w }
theorem RepD.all {lim : Nat → Nat} {w : World} {c : V} {v : Value} (h : RepD lim w c v) : RepD (limAll w) w c v := h.mono fun _ _ _ _ hc => ⟨limAll_of hc, hc⟩
theorem RepD.unown {lim : Nat → Nat} {w : World} {o : Bool} {s : Nat} {r : List (List V)} {v : Value} (h : RepD lim w (.sl o s r) v) : RepD lim w (.sl false s r) v := by
 cases h with
 | sl _ _ _ B o cap vs h1 h2 h3 h4 => exact .sl false s r B o cap vs h1 h2 h3 h4
 | slNil _ _ a => exact .slNil false s a
theorem dcell_repD {d : V} (hd : dcell d = true) {w : World} {v : Value} (hr : Rep (ghAll w) w noB uTop d v) : RepD (limAll w) w d v := by
 cases hr with
 | data h => exact h
 | undef => simp [dcell] at hd
 | ref _ _ _ _ _ _ _ h1 => simp [noB] at h1
 | refE _ _ _ _ h1 => simp [noB] at h1
 | refN _ _ _ h1 => simp [noB] at h1
 | deadRef => simp [dcell] at hd
 | ptr _ _ _ _ _ _ h1 => simp [noB] at h1
 | deadPtr => simp [dcell] at hd
 | mp => simp [dcell] at hd
 | deadMp => simp [dcell] at hd
 | fn f first captured fs cs h1 h2 _ _ =>
  simp only [dcell, Bool.and_eq_true, List.isEmpty_iff] at hd
  obtain ⟨rfl, rfl⟩ := hd
  exact .fn f [] [] fs cs h1 h2 (fun i c v hc => by simp at hc) (fun i c v hc => by simp at hc)
 | agg => simp [dcell] at hd
 | tup => simp [dcell] at hd
theorem mapO_flatten {f : V → Option V} : ∀ {l : List (List V)} {r : List (List V)}, mapO (mapO f) l = some r → mapO f l.flatten = some r.flatten
 | [], r, h => by simp [mapO] at h; subst h; rfl
 | x :: l, r, h => by
  simp only [mapO] at h
  split at h
  ·rename_i y r' h1 h2
   simp only [Option.some.injEq] at h; subst h
   have ih := mapO_flatten h2
   simp only [List.flatten_cons]
   have app : ∀ {a : List V} {b : List V} {a' b' : List V}, mapO f a = some a' → mapO f b = some b' → mapO f (a ++ b) = some (a' ++ b') := by
    intro a
    induction a with
    | nil => intro b a' b' ha hb; simp [mapO] at ha; subst ha; simpa using hb
    | cons z a iha =>
     intro b a' b' ha hb
     simp only [mapO] at ha
     split at ha
     ·rename_i y2 r2 k1 k2
      simp only [Option.some.injEq] at ha; subst ha
      simp only [List.cons_append, mapO, k1, iha k2 hb]
     ·simp at ha
   exact app h1 ih
  ·simp at h
theorem viewV_rep {γ : Gh} {w : World} {bs : Nat → Option Blk} {u : Nat → Bool} (hb : ∀ b k, bs b = some k → BlkOk γ w bs u b k) : ∀ (n : Nat) (c d : V) (v : Value), viewV bs n c = some d → Rep γ w bs u c v → Rep (ghAll w) w noB uTop d v
 | 0, _, _, _, h, _ => by simp [viewV] at h
 | n + 1, c, d, v, h, hr => by
  have ih := viewV_rep hb n
  have cells : ∀ (l r : List V), mapO (viewV bs n) l = some r → ∀ (vs : List Value), vs.length = l.length → (∀ (i : Nat) (c : V) (v : Value), l[i]? = some c → vs[i]? = some v → Rep γ w bs u c v) →
    vs.length = r.length ∧ ∀ (i : Nat) (c : V) (v : Value), r[i]? = some c → vs[i]? = some v → Rep (ghAll w) w noB uTop c v := by
   intro l r hm vs hl hv
   refine ⟨by rw [mapO_len hm]; exact hl, fun i c v hc hx => ?_⟩
   obtain ⟨x, h1, h2⟩ := mapO_get hm i c hc
   exact ih x c v h2 (hv i x v h1 hx)
  cases c <;> simp only [viewV] at h
  case int => simp only [Option.some.injEq] at h; subst h; cases hr with | data h => exact .data h.all
  case bool => simp only [Option.some.injEq] at h; subst h; cases hr with | data h => exact .data h.all
  case str => simp only [Option.some.injEq] at h; subst h; cases hr with | data h => exact .data h.all
  case nilp => simp only [Option.some.injEq] at h; subst h; cases hr with | data h => exact .data h.all
  case yld => simp only [Option.some.injEq] at h; subst h; cases hr with | data h => exact .data h.all
  case nilf => simp only [Option.some.injEq] at h; subst h; cases hr with | data h => exact .data h.all
  case nilsl => simp only [Option.some.injEq] at h; subst h; cases hr with | data h => exact .data h.all
  case sl => simp only [Option.some.injEq] at h; subst h; cases hr with | data h => exact .data h.all.unown
  case snap => simp only [Option.some.injEq] at h; subst h; cases hr with | data h => exact .data h.all
  case undef => simp at h
  case mp => simp at h
  case agg l =>
   obtain ⟨r, h1, rfl⟩ := Option.map_eq_some_iff.1 h
   obtain ⟨vs, rfl, hl, hv⟩ := hr.agg_inv
   obtain ⟨a1, a2⟩ := cells l r h1 vs hl hv
   exact .agg r vs a1 a2
  case tup l =>
   obtain ⟨r, h1, rfl⟩ := Option.map_eq_some_iff.1 h
   obtain ⟨vs, rfl, hl, hv⟩ := hr.tup_inv
   obtain ⟨a1, a2⟩ := cells l r h1 vs hl hv
   exact .tup r vs a1 a2
  case fn f a c =>
   split at h
   ·rename_i a' c' h1 h2
    simp only [Option.some.injEq] at h; subst h
    obtain ⟨fs, cs, rfl, l1, l2, p1, p2⟩ := hr.fn_inv
    obtain ⟨a1, a2⟩ := cells a a' h1 fs l1 p1
    obtain ⟨b1, b2⟩ := cells c c' h2 cs l2 p2
    exact .fn f a' c' fs cs a1 b1 a2 b2
   ·simp at h
  case ptr b i off =>
   cases hk : bs b with
   | none => rw [hk] at h; simp at h
   | some k =>
    rw [hk] at h; simp only at h
    split at h
    ·rename_i r hrow
     obtain ⟨r', h1, rfl⟩ := Option.map_eq_some_iff.1 h
     obtain ⟨B, o, rfl, hl⟩ := hr.ptr_inv hk
     have hat : ∀ (j : Nat) (c : V), r'[j]? = some c → ∃ x, cellAt w B (o + (i * k.size + off) + j) = some x ∧ RepD (limAll w) w c x := fun j c hc => by
      obtain ⟨c0, k1, k2⟩ := mapO_get h1 j c hc
      obtain ⟨k2, k3⟩ := onlyCell_some k2
      obtain ⟨x, x1, x2⟩ := (((hb b k hk).row hl hrow (hr.ptr_small hk)).drop off) j c0 k1
      exact ⟨x, by rw [show o + (i * k.size + off) + j = o + i * k.size + off + j by omega]; exact x1, dcell_repD k3 (ih c0 c x k2 x2)⟩
     refine .data (.snap r' B _ (fun j => (cellAt w B (o + (i * k.size + off) + j)).getD default) (fun j c hc => ?_) (fun j c hc => ?_))
     ·obtain ⟨x, x1, x2⟩ := hat j c hc
      rw [x1]; exact ⟨limAll_of x1, rfl⟩
     ·obtain ⟨x, x1, x2⟩ := hat j c hc
      rw [x1]; exact x2
    ·simp at h
  case ref b off len =>
   cases hk : bs b with
   | none => rw [hk] at h; simp at h
   | some k =>
    rw [hk] at h; simp only at h
    ·have hlen : off + len ≤ k.rows.length := by
      rcases hr.ref_inv hk with ⟨B, o, cap, _, _, h0, _⟩ | ⟨B, _, hz, h0, _⟩ | ⟨_, hz, h0, _⟩
      ·exact h0
      ·omega
      ·omega
     obtain ⟨r', h1, rfl⟩ := Option.map_eq_some_iff.1 h
     have hrl : r'.length = len := by rw [mapO_len h1]; simp; omega
     rcases hr.ref_inv hk with ⟨B, o, cap, rfl, hl, _, hcap, _, hM, _⟩ | ⟨B, rfl, rfl, _⟩ | ⟨rfl, rfl, _⟩
     ·rcases hb b k hk with ⟨h0, _⟩ | hm | ⟨_, B', o', cs, e, g1, _, g3, g4, g5, g6, _, _⟩
      ·rw [hl] at h0; simp at h0
      ·exact (hm.small hM).elim
      rw [hl] at g1; simp only [Option.some.injEq, Prod.mk.injEq] at g1
      obtain ⟨rfl, rfl⟩ := g1
      have hat : ∀ (j : Nat) (c : V), r'.flatten[j]? = some c → ∃ x, cellAt w B (o + off * k.size + j) = some x ∧ RepD (limAll w) w c x := fun j c hc => by
       obtain ⟨c0, k1, k2⟩ := mapO_get (mapO_flatten h1) j c hc
       obtain ⟨k2, k3⟩ := onlyCell_some k2
       obtain ⟨q1, _⟩ := flatten_cut k.rows g4 off len j c0 k1
       obtain ⟨x, x1, x2, _⟩ := g6 _ c0 q1
       refine ⟨x, ?_, dcell_repD k3 (ih c0 c x k2 x2)⟩
       unfold cellAt World.cell?
       simp only [g3]
       simpa [Nat.add_assoc] using x1
      have := RepD.sl (lim := limAll w) (w := w) false k.size r' B (o + off * k.size) cap (fun j => (cellAt w B (o + off * k.size + j)).getD default) (by omega) (fun r hr => by
       obtain ⟨j, hj⟩ := List.mem_iff_getElem?.1 hr
       obtain ⟨q, q1, q2⟩ := mapO_get h1 j r hj
       rw [mapO_len q2]
       exact g4 q (List.mem_of_mem_drop (List.mem_of_mem_take (List.mem_of_getElem? q1)))) (fun j c hc => by
       obtain ⟨x, x1, x2⟩ := hat j c hc
       rw [x1]; exact ⟨limAll_of x1, rfl⟩) (fun j c hc => by
       obtain ⟨x, x1, x2⟩ := hat j c hc
       rw [x1]; exact x2)
      rw [hrl] at this
      exact .data this
     ·obtain rfl : r' = [] := List.length_eq_zero_iff.1 hrl
      exact .data (.slNil false k.size (some B))
     ·obtain rfl : r' = [] := List.length_eq_zero_iff.1 hrl
      exact .data (.slNil false k.size)
theorem effO_call_view {P : Program} {G : Nat → Option (List V)} {o : Oper} {st : St} {x : Operand} {xs : Array Operand} {ts : Array TypeId} {f : FuncId} {cs ds : List V} {fn : Func} {r : V} {fuel : Nat} (tl : List Nat)
  (ho : o.op = .call { callee := .value x, args := xs, argTypes := ts }) (h : callArgs G (st.cutT tl) x xs.toList = some (f, cs)) (hfn : P.funcs[f]? = some fn) (hname : (fn.name == "runtime.NumGoroutine") = false) (hbody : fn.body.isNone = false)
  (hd : mapO (viewV st.b fuel) cs = some ds) (hc : PureC P G f ds r) (hr : flatB r = true) (hdst : dstOk st.n o.dst = true) : EffO P G o st (st.put o.dst r) := by
 intro fx γ a w hs had next Q hn
 obtain ⟨as, hrun, hargs⟩ := callArgs_spec (hs.cutT tl) ho h hfn hname hbody
 show o.upon P a next Q _
 rw [hrun, Oper.upon_enter]
 have hargs' : CellsR (ghAll w) w noB uTop ds as := ⟨by rw [mapO_len hd]; exact hargs.1, fun i c v hc hv => by
  obtain ⟨c0, k1, k2⟩ := mapO_get hd i c hc
  exact viewV_rep hs.b fuel c0 c v k2 (hargs.2 i c0 v k1 hv)⟩
 have hglob : GlobOk G (ghAll w) w := fun g cells hg => (hs.g g cells hg).all
 refine (hc (ghAll w) w as hglob (fun B x hx => by simp [ghAll] at hx) hargs' (fun b k hk => by simp [noB] at hk)).mono fun e w' hp => ?_
 obtain ⟨v, γe, rfl, hg, _, hrep, _, hown⟩ := hp
 have fr : ∀ B, B < w.heap.size → w'.heap[B]? = w.heap[B]? := fun B hB => (hg.free B hB rfl).1
 have hcell : ∀ B o v, cellAt w B o = some v → cellAt w' B o = some v := fun B o v hc => by
  have hB := cellAt_lt hc
  unfold cellAt World.cell? at hc ⊢
  simp only [fr B hB]; exact hc
 have g : Grow γ w γ w' := ⟨hg.os, hg.tape, hg.output, hg.size, fun B o v _ hc => hcell B o v hc, fun B _ => Nat.le_refl _, fun B hB ho => ⟨fr B hB, ho, rfl⟩, hg.room⟩
 have bl : BsLe γ st.b st.u γ st.b st.u := .refl hs.u
 have hs' : Sim G γ st a.tmps w' := by
  refine ⟨hs.n, fun i => (hs.t i).mono g bl, fun b k hk => ?_, hs.u, hs.g.grow g, fun B x hx => Nat.lt_of_lt_of_le (hs.o B x hx) hg.size⟩
  rcases hs.b b k hk with h0 | hm | ⟨hM, B, o, cs', e, a1, a2, a3, a4, a5, a6, a7, a8⟩
  ·exact .inl h0
  ·exact .inr (.inl (hm.same rfl (fun B _ hB => ⟨hB, fr B (hs.o B _ hB)⟩) fun c v hr => hr.mono g bl))
  refine .inr (.inr ⟨hM, B, o, cs', e, a1, a2, by rw [fr B (hs.o B _ a2)]; exact a3, a4, a5, fun i c hc => ?_, a7, a8⟩)
  obtain ⟨y, b1, b2, b3, b4⟩ := a6 i c hc
  exact ⟨y, b1, b2.mono g bl, b3, b4.grow g⟩
 refine hn _ _ γ (hs'.put hdst (hrep.flat hr)) g ?_ (by rw [put_defers]; exact had)
 cases o.dst <;> exact bl.pin
end Go.EV
namespace Go.EV
open Go
mutual
def renV (s : Nat → Nat) : V → V
 | .ref b off len => .ref (s b) off len
 | .ptr b i off => .ptr (s b) i off
 | .mp b => .mp (s b)
 | .fn f a c => .fn f (renL s a) (renL s c)
 | .agg l => .agg (renL s l)
 | .tup l => .tup (renL s l)
 | .int k n => .int k n
 | .bool b => .bool b
 | .str x => .str x
 | .nilp => .nilp
 | .nilf => .nilf
 | .yld l => .yld l
 | .nilsl => .nilsl
 | .sl o z r => .sl o z r
 | .snap c => .snap c
 | .undef => .undef
def renL (s : Nat → Nat) : List V → List V
 | [] => []
 | c :: l => renV s c :: renL s l
end
theorem renL_eq (s : Nat → Nat) : ∀ l : List V, renL s l = l.map (renV s)
 | [] => rfl
 | c :: l => by simp only [renL, List.map_cons, renL_eq s l]
theorem renL_len (s : Nat → Nat) (l : List V) : (renL s l).length = l.length := by rw [renL_eq]; simp
theorem renL_get {s : Nat → Nat} {l : List V} {i : Nat} {c : V} (h : (renL s l)[i]? = some c) : ∃ c0, l[i]? = some c0 ∧ c = renV s c0 := by
 rw [renL_eq, List.getElem?_map, Option.map_eq_some_iff] at h
 obtain ⟨c0, h1, rfl⟩ := h
 exact ⟨c0, h1, rfl⟩
def Blk.ren (s : Nat → Nat) (k : Blk) : Blk := { k with rows := k.rows.map (renL s) }
theorem ren_flatten (s : Nat → Nat) : ∀ rows : List (List V), (rows.map (renL s)).flatten = renL s rows.flatten
 | [] => rfl
 | r :: rows => by simp only [List.map_cons, List.flatten_cons, ren_flatten s rows, renL_eq, List.map_append]
theorem refsL_get : ∀ {l : List V} {i : Nat} {c : V} {b : Nat}, l[i]? = some c → b ∈ refsV c → b ∈ refsL l
 | [], i, c, b, h, _ => by simp at h
 | x :: l, i, c, b, h, hb => by
  simp only [refsL, List.mem_append]
  cases i with
  | zero => simp at h; subst h; exact .inl hb
  | succ i => exact .inr (refsL_get (by simpa using h) hb)
theorem RepD.ren {lim lim' : Nat → Nat} {w w' : World} (hm : ∀ B o v, o < lim B → cellAt w B o = some v → o < lim' B ∧ cellAt w' B o = some v) (s : Nat → Nat) {c : V} {v : Value} (h : RepD lim w c v) : RepD lim' w' (renV s c) v := by
 induction h with
 | int k n => exact .int k n
 | bool b => exact .bool b
 | str s => exact .str s
 | nilp => exact .nilp
 | nilf => exact .nilf
 | yld l => exact .yld l
 | nilsl => exact .nilsl
 | sl own size rows B o cap vs h1 h2 h3 h4 _ => exact (RepD.sl own size rows B o cap vs h1 h2 h3 h4).mono hm
 | slNil own size a => exact .slNil own size a
 | snap cells B o vs h3 h4 _ => exact (RepD.snap cells B o vs h3 h4).mono hm
 | fn f first captured fs cs h1 h2 _ _ ih1 ih2 =>
  refine .fn f _ _ fs cs (by rw [renL_len]; exact h1) (by rw [renL_len]; exact h2) (fun i c v hc hv => ?_) (fun i c v hc hv => ?_)
  ·obtain ⟨c0, k1, rfl⟩ := renL_get hc; exact ih1 i c0 v k1 hv
  ·obtain ⟨c0, k1, rfl⟩ := renL_get hc; exact ih2 i c0 v k1 hv
def Tr (γ1 : Gh) (bs1 : Nat → Option Blk) (u1 : Nat → Bool) (γ2 : Gh) (bs2 : Nat → Option Blk) (u2 : Nat → Bool) (s : Nat → Nat) (b : Nat) : Prop :=
 (∀ k, bs1 b = some k → ∃ k', bs2 (s b) = some k' ∧ k'.size = k.size ∧ k'.rows.length = k.rows.length ∧ γ2.loc (s b) = γ1.loc b) ∧
  (bs1 b = none → u1 b = true → bs2 (s b) = none ∧ u2 (s b) = true)
theorem Rep.ren {γ1 γ2 : Gh} {w w' : World} {bs1 bs2 : Nat → Option Blk} {u1 u2 : Nat → Bool} {s : Nat → Nat} (hm : ∀ B o v, o < γ1.lim B → cellAt w B o = some v → o < γ2.lim B ∧ cellAt w' B o = some v) (hroom : ∀ B n, RoomAt w B n → RoomAt w' B n)
  {c : V} {v : Value} (h : Rep γ1 w bs1 u1 c v) : (∀ b, b ∈ refsV c → Tr γ1 bs1 u1 γ2 bs2 u2 s b) → Rep γ2 w' bs2 u2 (renV s c) v := by
 induction h with
 | data h => exact fun _ => .data (h.ren hm s)
 | undef v => exact fun _ => .undef v
 | ref b off len B o cap k h1 h2 h3 h4 h5 h6 h7 =>
  intro ht
  obtain ⟨k', a1, a2, a3, a4⟩ := (ht b (by simp [refsV])).1 k h1
  rw [← a2]
  exact .ref (s b) off len B o cap k' a1 (a4.trans h2) (by omega) h4 (hroom _ _ (by rw [a2]; exact h5)) (by rw [a2]; exact h6) (by omega)
 | refE b off B k h1 h6 h2 =>
  intro ht
  obtain ⟨k', a1, a2, a3, a4⟩ := (ht b (by simp [refsV])).1 k h1
  exact .refE (s b) off B k' a1 (by rw [a2]; exact h6) (by omega)
 | refN b off k h1 h6 h2 =>
  intro ht
  obtain ⟨k', a1, a2, a3, a4⟩ := (ht b (by simp [refsV])).1 k h1
  exact .refN (s b) off k' a1 (by rw [a2]; exact h6) (by omega)
 | deadRef b off len v h1 h2 h3 =>
  intro ht
  obtain ⟨a1, a2⟩ := (ht b (by simp [refsV])).2 h1 h2
  exact .deadRef (s b) off len v a1 a2 h3
 | ptr b i off B o k h1 h2 h3 =>
  intro ht
  obtain ⟨k', a1, a2, a3, a4⟩ := (ht b (by simp [refsV])).1 k h1
  rw [← a2]
  exact .ptr (s b) i off B o k' a1 (a4.trans h2) (by rw [a2]; exact h3)
 | mp b B k h1 h2 h3 =>
  intro ht
  obtain ⟨k', a1, a2, a3, a4⟩ := (ht b (by simp [refsV])).1 k h1
  exact .mp (s b) B k' a1 (a4.trans h2) (by rw [a2]; exact h3)
 | deadMp b v h1 h2 h3 =>
  intro ht
  obtain ⟨a1, a2⟩ := (ht b (by simp [refsV])).2 h1 h2
  exact .deadMp (s b) v a1 a2 h3
 | deadPtr b i off v h1 h2 h3 =>
  intro ht
  obtain ⟨a1, a2⟩ := (ht b (by simp [refsV])).2 h1 h2
  exact .deadPtr (s b) i off v a1 a2 h3
 | fn f first captured fs cs h1 h2 _ _ ih1 ih2 =>
  intro ht
  refine .fn f _ _ fs cs (by rw [renL_len]; exact h1) (by rw [renL_len]; exact h2) (fun i c v hc hv => ?_) (fun i c v hc hv => ?_)
  ·obtain ⟨c0, k1, rfl⟩ := renL_get hc
   exact ih1 i c0 v k1 hv fun b hb => ht b (by simp only [refsV, List.mem_append]; exact .inl (refsL_get k1 hb))
  ·obtain ⟨c0, k1, rfl⟩ := renL_get hc
   exact ih2 i c0 v k1 hv fun b hb => ht b (by simp only [refsV, List.mem_append]; exact .inr (refsL_get k1 hb))
 | agg cells vs h1 _ ih =>
  intro ht
  refine .agg _ vs (by rw [renL_len]; exact h1) fun i c v hc hv => ?_
  obtain ⟨c0, k1, rfl⟩ := renL_get hc
  exact ih i c0 v k1 hv fun b hb => ht b (by simp only [refsV]; exact refsL_get k1 hb)
 | tup cells vs h1 _ ih =>
  intro ht
  refine .tup _ vs (by rw [renL_len]; exact h1) fun i c v hc hv => ?_
  obtain ⟨c0, k1, rfl⟩ := renL_get hc
  exact ih i c0 v k1 hv fun b hb => ht b (by simp only [refsV]; exact refsL_get k1 hb)
theorem renV_own (s : Nat → Nat) (γ : Gh) (w : World) (t : Owner) (c : V) (v : Value) : Right γ w t (renV s c) v = Right γ w t c v := by
 cases c <;> rfl
def Owner.ren (K : Nat → Bool) (s : Nat → Nat) : Option Owner → Option Owner
 | some (.blk b) => if K b then some (.blk (s b)) else none
 | some (.nest b i j) => if K b then some (.nest (s b) i j) else none
 | none => none
def St.after (st : St) (J : Nat → Bool) (s r : Nat → Nat) (outs : Nat → Option Blk) : St :=
 { st with b := fun j => if J j then (outs (s j)).map (·.ren r) else st.b j, u := fun j => J j || st.u j }
theorem BlkOk.ren {γ1 γ2 : Gh} {w : World} {bs1 bs2 : Nat → Option Blk} {u1 u2 : Nat → Bool} {s : Nat → Nat} {b : Nat} {k : Blk} (h : BlkOk γ1 w bs1 u1 b k)
  (hl : γ2.loc (s b) = γ1.loc b) (hm : ∀ B, γ2.lim B = γ1.lim B) (hob : ∀ B, γ1.own B = some (.blk b) → γ2.own B = some (.blk (s b))) (hon : ∀ B i j, γ1.own B = some (.nest b i j) → γ2.own B = some (.nest (s b) i j))
  (hr : ∀ b', b' ∈ refsL k.rows.flatten → Tr γ1 bs1 u1 γ2 bs2 u2 s b') : BlkOk γ2 w bs2 u2 (s b) (k.ren s) := by
 rcases h with ⟨h0, h00⟩ | hm' | ⟨hM, B, o, cs, e, a1, a2, a3, a4, a5, a6, a7, a8⟩
 ·exact .inl ⟨hl.trans h0, by simp [Blk.ren, h00]⟩
 ·refine .inr (.inl (hm'.keep hl (fun B _ hB => ⟨hob B hB, rfl⟩) rfl (by simp [Blk.ren]) (fun r hr => ?_) fun i c hc => ?_))
  ·obtain ⟨r0, h1, rfl⟩ := List.mem_map.1 hr
   obtain ⟨_, _, _, _, _, _, _, _, h5, _⟩ := hm'
   rw [renL_len]; exact h5 r0 h1
  ·have hc' : (renL s k.rows.flatten)[i]? = some c := by rw [← ren_flatten]; exact hc
   obtain ⟨c0, k1, rfl⟩ := renL_get hc'
   exact ⟨c0, k1, fun v hv => hv.ren (fun B o v h1 h2 => ⟨by rw [hm B]; exact h1, h2⟩) (fun _ _ h => h) fun b' hb' => hr b' (refsL_get k1 hb')⟩
 refine .inr (.inr ⟨hM, B, o, cs, e, hl.trans a1, hob B a2, a3, fun r hr => ?_, by simpa [Blk.ren] using a5, fun i c hc => ?_, fun hx => (hm B).trans (a7 hx), by rw [hm B]; simpa [Blk.ren] using a8⟩)
 ·obtain ⟨r0, h1, rfl⟩ := List.mem_map.1 hr
  rw [renL_len]; exact a4 r0 h1
 ·have hc' : (renL s k.rows.flatten)[i]? = some c := by rw [← ren_flatten]; exact hc
  obtain ⟨c0, k1, rfl⟩ := renL_get hc'
  obtain ⟨v, v1, v2, v3, v4⟩ := a6 i c0 k1
  refine ⟨v, v1, v2.ren (fun B o v h1 h2 => ⟨by rw [hm B]; exact h1, h2⟩) (fun _ _ h => h) (fun b' hb' => hr b' (refsL_get k1 hb')), v3, ?_⟩
  show Right γ2 w (.nest (s b) (i / k.size) (i % k.size)) (renV s c0) v
  rw [renV_own]
  unfold Right at v4 ⊢
  split at v4
  ·rcases v4 with v4 | v4
   ·exact .inl v4
   exact .inr ⟨⟨hon _ _ _ v4.1.1, by rw [hm]; exact v4.1.2⟩, v4.2⟩
  ·trivial
theorem effO_callS {P : Program} {G : Nat → Option (List V)} {o : Oper} {st0 st : St} {f : FuncId} {cs : List V} {res : V} {ins outs : Nat → Option Blk} (K Kin : Nat → Bool) (r s : Nat → Nat)
  (hcall : ∀ (γ : Gh) (a : Act) (w : World), Sim G γ st0 a.tmps w → ∃ (γ1 : Gh) (as : Array Value), Sim G γ1 st a.tmps w ∧ Grow γ w γ1 w ∧ Pin γ st0.b st0.u γ1 st.b st.u ∧ (execOp a.eval o).run P w = .ok (.enter f as) w ∧ CellsR γ1 w st.b st.u cs as)
  (hrs : ∀ c, K c = true → s (r c) = c) (hKin : ∀ c, Kin c = true → K c = true ∧ uPin c = true)
  (hin : ∀ c, Kin c = true → ∃ k, st.b (r c) = some k ∧ ins c = some (k.ren s) ∧ ∀ b, b ∈ refsL k.rows.flatten → Kin (s b) = true ∧ r (s b) = b)
  (hins : ∀ c, Kin c = false → ins c = none) (hfresh : ∀ c, K c = true → Kin c = false → st.u (r c) = false)
  (hout : ∀ c k, outs c = some k → K c = true ∧ ∀ b, b ∈ refsL k.rows.flatten → K b = true) (hres : ∀ b, b ∈ refsV res → K b = true)
  (hargs : ∀ b, b ∈ refsL cs → Kin (s b) = true ∧ r (s b) = b)
  (hc : CallC P G f (renL s cs) ins res outs) (hdst : dstOk st.n o.dst = true) :
  EffO P G o st0 ((st.after (fun j => K (s j) && (r (s j) == j)) s r outs).put o.dst (renV r res)) := by
 intro fx γ0 a w hs0 had next Q hn0
 obtain ⟨γ, as, hs, g0, p0, hrun, has⟩ := hcall γ0 a w hs0
 have hn : ∀ a' w' γ', Sim G γ' ((st.after (fun j => K (s j) && (r (s j) == j)) s r outs).put o.dst (renV r res)) a'.tmps w' → Grow γ w γ' w' →
   Pin γ st.b st.u γ' ((st.after (fun j => K (s j) && (r (s j) == j)) s r outs).put o.dst (renV r res)).b ((st.after (fun j => K (s j) && (r (s j) == j)) s r outs).put o.dst (renV r res)).u → a'.defers = fx.ds → next a' w' :=
  fun a' w' γ' h1 h2 h3 h4 => hn0 a' w' γ' h1 (g0.trans h2) (p0.trans h3) h4
 show o.upon P a next Q _
 rw [hrun, Oper.upon_enter]
 let J : Nat → Bool := fun j => K (s j) && (r (s j) == j)
 let Jin : Nat → Bool := fun j => Kin (s j) && (r (s j) == j)
 have hJin : ∀ j, Jin j = true → J j = true := fun j hj => by
  simp only [Jin, J, Bool.and_eq_true] at hj ⊢; exact ⟨(hKin _ hj.1).1, hj.2⟩
 have hJr : ∀ c, K c = true → J (r c) = true := fun c hc => by simp only [J, hrs c hc, hc, Bool.true_and, beq_self_eq_true]
 have hJinr : ∀ c, Kin c = true → Jin (r c) = true := fun c hc => by simp only [Jin, hrs c (hKin c hc).1, hc, Bool.true_and, beq_self_eq_true]
 have hJe : ∀ j, J j = true → K (s j) = true ∧ r (s j) = j := fun j hj => by simpa [J] using hj
 let γc : Gh := { loc := fun c => if Kin c then γ.loc (r c) else none, own := fun B => Owner.ren Jin s (γ.own B), lim := γ.lim }
 have hcown : ∀ B, γ.own B = none → γc.own B = none := fun B hB => by simp [γc, hB, Owner.ren]
 have trIn : ∀ b, Kin (s b) = true → r (s b) = b → Tr γ st.b st.u γc ins uTop s b := fun b h1 h2 => by
  obtain ⟨k, k1, k2, _⟩ := hin _ h1
  rw [h2] at k1
  refine ⟨fun k' hk' => ?_, fun hn => by rw [k1] at hn; simp at hn⟩
  rw [k1] at hk'; simp only [Option.some.injEq] at hk'; subst hk'
  exact ⟨_, k2, rfl, by simp [Blk.ren], by simp [γc, h1, h2]⟩
 have hargs' : CellsR γc w ins uTop (renL s cs) as := ⟨by rw [renL_len]; exact has.1, fun i c v hc hv => by
  obtain ⟨c0, k1, rfl⟩ := renL_get hc
  exact (has.2 i c0 v k1 hv).ren (γ1 := γ) (γ2 := γc) (fun B o v h1 h2 => ⟨h1, h2⟩) (fun _ _ h => h) fun b hb => trIn b (hargs b (refsL_get k1 hb)).1 (hargs b (refsL_get k1 hb)).2⟩
 have hblk : ∀ b k, ins b = some k → uTop b = true ∧ BlkOk γc w ins uTop b k := fun c k' hk' => by
  have hK : Kin c = true := by
   cases hk : Kin c with
   | true => rfl
   | false => rw [hins c hk] at hk'; simp at hk'
  obtain ⟨k, k1, k2, k3⟩ := hin c hK
  rw [k2] at hk'; simp only [Option.some.injEq] at hk'; subst hk'
  refine ⟨uPin_top (hKin c hK).2, ?_⟩
  have hsc := hrs c (hKin c hK).1
  have := (hs.b _ k k1).ren (γ2 := γc) (bs2 := ins) (u2 := uTop) (s := s) (by rw [hsc]; simp [γc, hK]) (fun _ => rfl) (fun B hB => by simp [γc, hB, Owner.ren, hJinr c hK]) (fun B i j hB => by simp [γc, hB, Owner.ren, hJinr c hK])
   (fun b' hb' => trIn b' (k3 b' hb').1 (k3 b' hb').2)
  rwa [hsc] at this
 have hcb : ∀ B x, γc.own B = some x → B < w.heap.size := fun B x hx => by
  cases hB : γ.own B with
  | none => rw [hcown B hB] at hx; simp at hx
  | some y => exact hs.o B y hB
 refine (hc γc w as (fun g cells hg => hs.g g cells hg) hcb hargs' hblk).mono fun e w' hp => ?_
 obtain ⟨v, γe, rfl, hg, hpin, hrep, hbo, hown⟩ := hp
 let γ' : Gh := { loc := fun j => if J j then γe.loc (s j) else γ.loc j, own := fun B => if B < w.heap.size ∧ γc.own B = none then γ.own B else Owner.ren K r (γe.own B), lim := γe.lim }
 have g : Grow γ w γ' w' := by
  refine ⟨hg.os, hg.tape, hg.output, hg.size, fun B o v hl hc => hg.imm B o v hl hc, fun B hB => hg.lim B hB, fun B hB ho => ?_, hg.room⟩
  obtain ⟨a1, a2, a3⟩ := hg.free B hB (hcown B ho)
  refine ⟨a1, ?_, a3⟩
  show (if B < w.heap.size ∧ γc.own B = none then γ.own B else Owner.ren K r (γe.own B)) = none
  rw [if_pos ⟨hB, hcown B ho⟩]; exact ho
 have fresh : ∀ j, J j = true → st.u j = true → Kin (s j) = true := fun j hj hu => by
  obtain ⟨j1, j2⟩ := hJe j hj
  cases hk : Kin (s j) with
  | true => rfl
  | false => have := hfresh _ j1 hk; rw [j2, hu] at this; simp at this
 have bl : BsLe γ st.b st.u γ' (st.after J s r outs).b (st.after J s r outs).u := by
  refine ⟨fun b hb => by simp [St.after, hb], fun b hb hnb => ?_, fun b k hk => ⟨by simp [St.after, hs.u b k hk], ?_⟩⟩
  ·simp only [St.after]
   cases hj : J b with
   | false => simpa using hnb
   | true =>
    obtain ⟨k, k1, _⟩ := hin _ (fresh b hj hb)
    rw [(hJe b hj).2, hnb] at k1; simp at k1
  ·simp only [St.after]
   cases hj : J b with
   | false => exact .inr ⟨k, by simpa using hk, rfl, fun _ => rfl, by simp [γ', hj]⟩
   | true =>
    have hK := fresh b hj (hs.u b k hk)
    obtain ⟨k0, k1, k2, _⟩ := hin _ hK
    rw [(hJe b hj).2, hk] at k1; simp only [Option.some.injEq] at k1; subst k1
    have hge : uPin (s b) = true := (hKin _ hK).2
    obtain ⟨_, hp⟩ := (hpin (s b) hge).2.2 _ k2
    rcases hp with hp | ⟨k', p1, p2, p3, p4⟩
    ·left; simp [hp]
    ·right
     refine ⟨k'.ren r, by simp [p1], p2, by simpa [Blk.ren] using p3, ?_⟩
     simp only [γ', hj, if_true]
     rw [p4]; simp [γc, hK, (hJe b hj).2]
 have ownE : ∀ B x, γe.own B = some x → γ'.own B = Owner.ren K r (some x) := fun B x hx => by
  show (if B < w.heap.size ∧ γc.own B = none then γ.own B else Owner.ren K r (γe.own B)) = _
  rw [if_neg, hx]
  rintro ⟨h1, h2⟩
  have := (hg.free B h1 h2).2.1
  rw [hx] at this; simp at this
 have trOut : ∀ b, K b = true → Tr γe outs (fun _ => true) γ' (st.after J s r outs).b (st.after J s r outs).u r b := fun b hb => by
  refine ⟨fun k hk => ⟨k.ren r, ?_, rfl, by simp [Blk.ren], ?_⟩, fun hk _ => ⟨?_, ?_⟩⟩
  ·simp only [St.after, hJr b hb, hrs b hb, hk, if_true, Option.map_some]
  ·simp only [γ', hJr b hb, hrs b hb, if_true]
  ·simp only [St.after, hJr b hb, hrs b hb, hk, if_true, Option.map_none]
  ·simp only [St.after, hJr b hb, Bool.true_or]
 have hs' : Sim G γ' (st.after J s r outs) a.tmps w' := by
  refine ⟨hs.n, fun i => (hs.t i).mono g bl, fun b k hk => ?_, fun b k hk => ?_, hs.g.grow g, fun B x hx => ?_⟩
  ·have hk' := hk
   simp only [St.after] at hk
   cases hj : J b with
   | true =>
    simp only [hj, if_true] at hk
    obtain ⟨k0, k1, rfl⟩ := Option.map_eq_some_iff.1 hk
    obtain ⟨j1, j2⟩ := hJe b hj
    have := (hbo _ k0 k1).ren (γ2 := γ') (bs2 := (st.after J s r outs).b) (u2 := (st.after J s r outs).u) (s := r) (by simp only [γ', j2, hj, if_true]) (fun _ => rfl)
     (fun B hB => by rw [ownE B _ hB]; simp [Owner.ren, j1]) (fun B i j hB => by rw [ownE B _ hB]; simp [Owner.ren, j1]) (fun b' hb' => trOut b' ((hout _ k0 k1).2 b' hb'))
    rwa [j2] at this
   | false =>
    simp only [hj] at hk
    have hk : st.b b = some k := by simpa using hk
    have hji : Jin b = false := by
     cases hi : Jin b with
     | false => rfl
     | true => rw [hJin b hi] at hj; simp at hj
    rcases hs.b b k hk with ⟨h0, h00⟩ | hm' | ⟨hM, B, o, cs', e, a1, a2, a3, a4, a5, a6, a7, a8⟩
    ·exact .inl ⟨by simp only [γ', hj]; simpa using h0, h00⟩
    ·refine .inr (.inl (hm'.same (by simp only [γ', hj]; simp) (fun B _ hB => ?_) fun c v hr => hr.mono g bl))
     have hcn : γc.own B = none := by simp [γc, hB, Owner.ren, hji]
     obtain ⟨f1, f2, f3⟩ := hg.free B (hs.o B _ hB) hcn
     refine ⟨?_, f1⟩
     show (if B < w.heap.size ∧ γc.own B = none then γ.own B else Owner.ren K r (γe.own B)) = _
     rw [if_pos ⟨hs.o B _ hB, hcn⟩]; exact hB
    have oc : ∀ B', (γ.own B' = some (.blk b) ∨ ∃ i j, γ.own B' = some (.nest b i j)) → γc.own B' = none := fun B' hB' => by
     rcases hB' with hB' | ⟨i, j, hB'⟩ <;> simp [γc, hB', Owner.ren, hji]
    have oB : ∀ B', (γ.own B' = some (.blk b) ∨ ∃ i j, γ.own B' = some (.nest b i j)) → B' < w.heap.size := fun B' hB' => by
     rcases hB' with hB' | ⟨i, j, hB'⟩ <;> exact hs.o B' _ hB'
    have fr : ∀ B', (γ.own B' = some (.blk b) ∨ ∃ i j, γ.own B' = some (.nest b i j)) → w'.heap[B']? = w.heap[B']? ∧ γ'.own B' = γ.own B' ∧ γe.lim B' = γ.lim B' := fun B' hB' => by
     obtain ⟨f1, f2, f3⟩ := hg.free B' (oB B' hB') (oc B' hB')
     refine ⟨f1, ?_, f3⟩
     show (if B' < w.heap.size ∧ γc.own B' = none then γ.own B' else Owner.ren K r (γe.own B')) = _
     rw [if_pos ⟨oB B' hB', oc B' hB'⟩]
    obtain ⟨f1, f2, f3⟩ := fr B (.inl a2)
    refine .inr (.inr ⟨hM, B, o, cs', e, by simp only [γ', hj]; simpa using a1, f2.trans a2, f1.trans a3, a4, a5, fun i c hc => ?_, fun hx => f3.trans (a7 hx), by show γe.lim B ≤ _; rw [f3]; exact a8⟩)
    obtain ⟨y, b1, b2, b3, b4⟩ := a6 i c hc
    refine ⟨y, b1, b2.mono g bl, b3, ?_⟩
    replace b4 := b4.grow g
    unfold Right at b4 ⊢
    split at b4
    ·rename_i size rows ad l cp
     rcases b4 with b4 | b4
     ·exact .inl b4
     obtain ⟨q1, q2, q3⟩ := fr ad.block (.inr ⟨_, _, b4.1.1⟩)
     exact .inr ⟨⟨q2.trans b4.1.1, by show γe.lim _ ≤ _; rw [q3]; exact b4.1.2⟩, b4.2⟩
    ·trivial
  ·simp only [St.after] at hk ⊢
   cases hj : J b with
   | true => rfl
   | false => simp only [hj] at hk; simpa using hs.u b k (by simpa using hk)
  ·by_cases hB : B < w.heap.size ∧ γc.own B = none
   ·exact Nat.lt_of_lt_of_le hB.1 hg.size
   ·simp only [γ'] at hx
    rw [if_neg hB] at hx
    cases hB2 : γe.own B with
    | none => rw [hB2] at hx; simp [Owner.ren] at hx
    | some y => exact hown B y hB2
 refine hn _ _ γ' (hs'.put (dst := o.dst) hdst (hrep.ren (γ1 := γe) (γ2 := γ') (bs2 := (st.after J s r outs).b) (u2 := (st.after J s r outs).u) (s := r) (fun B o v h1 h2 => ⟨h1, h2⟩) (fun _ _ h => h) fun b hb => trOut b (hres b hb))) g ?_ (by rw [put_defers]; exact had)
 cases o.dst <;> exact bl.pin
end Go.EV
namespace Go.EV
open Go
def opBs (st : St) (o : Oper) : List Nat := match o.op with
 | .move _ => []
 | .assign _ => []
 | _ => (opTemps o).flatMap fun t => refsV (st.t t)
def opR (ops : Array Oper) (i : Nat) (st : St) (ex : List Nat) : List Loc :=
 match ops[i]? with
 | none => []
 | some o => guardLocs ops o ++ (opTemps o).map .t ++ (opBs st o).map .b ++ ex.map .b ++ (match o.dst with | some d => [.b d] | none => [])
def EffL (P : Program) (G : Nat → Option (List V)) (o : Oper) (st : St) (ex : List Nat) (ws : List Wr) : Prop :=
 ∀ st2 : St, st2.n = st.n → (∀ t, t ∈ opTemps o → st2.t t = st.t t) → (∀ b, b ∈ opBs st o ++ ex → st2.b b = st.b b ∧ st2.u b = st.u b) → (∀ d, o.dst = some d → st2.b d = st.b d ∧ st2.u d = st.u d) → EffO P G o st2 (st2.app ws)
theorem stepL_of_effL {P : Program} {G : Nat → Option (List V)} {ops : Array Oper} {i : Nat} {o : Oper} {st : St} {ex : List Nat} {ws : List Wr} (hi : ops[i]? = some o) (hg : guardV ops st o = some true) (h : EffL P G o st ex ws) :
  StepL P G ops i st (opR ops i st ex) ws := by
 intro st2 hn hag
 unfold opR at hag
 rw [hi] at hag
 simp only at hag
 unfold StepV
 rw [hi]
 refine .inl ⟨by rw [guardV_local hn (fun l hl => hag l (by simp [hl]))]; exact hg, h st2 hn (fun t ht => ?_) (fun b hb => ?_) fun d hd => ?_⟩
 ·exact Eq.symm (show st.t t = st2.t t from hag (.t t) (by simp [ht]))
 ·have : eqAt st st2 (.b b) := hag (.b b) (by
   rcases List.mem_append.1 hb with hb | hb <;> simp [hb])
  exact ⟨this.1.symm, this.2.symm⟩
 ·have : eqAt st st2 (.b d) := hag (.b d) (by rw [hd]; simp)
  exact ⟨this.1.symm, this.2.symm⟩
def along (p : Plan) (st : St) : Nat → St
 | 0 => st
 | n + 1 => (along p st n).app (p.ws n)
theorem planSt_along (p : Plan) (st : St) (i : Nat) : ∀ n, p.st (fun j => decide (j < i)) st n = along p st (min i n)
 | 0 => by simp [Plan.st, along]
 | n + 1 => by
  simp only [Plan.st]
  rw [planSt_along p st i n]
  by_cases h : n < i
  ·rw [if_pos (by simpa using h), show min i n = n by omega, show min i (n + 1) = n + 1 by omega]; rfl
  ·rw [if_neg (by simpa using h), show min i n = i by omega, show min i (n + 1) = i by omega]
theorem planSt_all (p : Plan) (st : St) : ∀ n, p.st (fun _ => true) st n = along p st n
 | 0 => rfl
 | n + 1 => by simp only [Plan.st, if_true, planSt_all p st n, along]
theorem TVops.plan {P : Program} {G : Nat → Option (List V)} {ops : Array Oper} {Q : Exit → St → Prop} {p : Plan} {st : St} (h : ∀ i, i < ops.size → StepL P G ops i (along p st i) (p.rs i) (p.ws i)) (hq : Q .normal (along p st ops.size)) :
  ∀ n k, k + n = ops.size → TVops P G ops (List.range' k n) (along p st k) Q
 | 0, k, hk => by
  have : k = ops.size := by omega
  subst this; exact TVops.nil hq
 | n + 1, k, hk => by
  rw [List.range'_succ]
  exact TVops.cons (h k (by omega) _ rfl (fun l _ => eqAt.refl _ l)) (TVops.plan h hq n (k + 1) (by omega))
def drawOk (ops : Array Oper) (p : Plan) : Bool := p.ok ops && (ops.toList.zipIdx.all fun x => x.1.after.all fun e => !Region.binds .any e || decide (e.on < x.2))
end Go.EV
namespace Go.EV
open Go
def opAt (ops : Array Oper) (i : Nat) (s : St) : Option Oper :=
 match ops[i]? with
 | some o => match guardV ops s o with
  | some true => some o
  | _ => none
 | none => none
theorem opAt_spec {ops : Array Oper} {i : Nat} {s : St} {o : Oper} (h : opAt ops i s = some o) : ops[i]? = some o ∧ guardV ops s o = some true := by
 unfold opAt at h
 split at h
 ·rename_i o' hi
  split at h <;> simp at h
  rename_i hg
  subst h; exact ⟨hi, hg⟩
 ·simp at h
def St.evC (G : Nat → Option (List V)) (s : St) (o : Oper) : Operand → Option V := (s.cutT (opTemps o)).ev G
def St.lookC (s : St) (o : Oper) (ex : List Nat) : Nat → Option Blk := cutB s.b (opBs s o ++ ex)
theorem evC_agree {G : Nat → Option (List V)} {s s2 : St} {o : Oper} (h : ∀ t, t ∈ opTemps o → s2.t t = s.t t) : (s2.cutT (opTemps o)).ev G = s.evC G o := funext fun x => by
 unfold St.evC
 have e : (s2.cutT (opTemps o)).t = (s.cutT (opTemps o)).t := funext fun j => by
  show (if (opTemps o).contains j then s2.t j else .undef) = (if (opTemps o).contains j then s.t j else .undef)
  split
  ·rename_i hc; exact h j (by simpa using hc)
  ·rfl
 cases x <;> simp only [St.ev]
 rw [e]
theorem lookC_agree {s s2 : St} {o : Oper} {ex : List Nat} (h : ∀ b, b ∈ opBs s o ++ ex → s2.b b = s.b b ∧ s2.u b = s.u b) : cutB s2.b (opBs s o ++ ex) = s.lookC o ex := funext fun j => by
 unfold St.lookC cutB
 split
 ·rename_i hc; exact (h j (by simpa using hc)).1
 ·rfl
theorem effL_read {P : Program} {G : Nat → Option (List V)} {o : Oper} {s : St} {ex : List Nat} {c : V} (hd : dstOk s.n o.dst = true) (h : readV P (s.evC G o) (s.lookC o ex) o.op = some c) : EffL P G o s ex (dstW o.dst c) := by
 intro s2 hn ht hb _
 rw [app_dstW]
 exact effO_pure (by rw [hn]; exact hd) fun γ a w hs => run_readV (hs.cutT (opTemps o)) (readV_mono (cutB_le s2.b (opBs s o ++ ex)) (by
  show readV P ((s2.cutT (opTemps o)).ev G) _ _ = _
  rw [evC_agree ht, lookC_agree hb]; exact h))
theorem stepL_of {P : Program} {G : Nat → Option (List V)} {ops : Array Oper} {s : St} {i : Nat} {ex : List Nat} {ws : List Wr}
  (h : ∃ o, opAt ops i s = some o ∧ EffL P G o s ex ws) : StepL P G ops i s (opR ops i s ex) ws := by
 obtain ⟨o, h1, h2⟩ := h
 obtain ⟨h3, h4⟩ := opAt_spec h1
 exact stepL_of_effL h3 h4 h2
section
variable {P : Program} {G : Nat → Option (List V)} {ops : Array Oper} {s : St} {i : Nat} {ex : List Nat}
def sliceSz (P : Program) (t : TypeId) : Option Nat := match P.underlying t with
 | some (.slice e) => (P.info? e).map (·.size)
 | _ => none
def idxSl (P : Program) (G : Nat → Option (List V)) (ops : Array Oper) (i : Nat) (s : St) : Option (Nat × List (List V) × Int) :=
 match opAt ops i s with
 | some o => match o.op, o.dst with
  | .indexAddr t x j, some d => if d < s.n then match s.evC G o x, s.evC G o j with
    | some (.sl _ size rows), some (.int _ n) => if sliceSz P t = some size then some (d, rows, n) else none
    | _, _ => none
   else none
  | _, _ => none
 | none => none
theorem told_idxSl {d : Nat} {rows : List (List V)} {n : Int} {r : List V} (h1 : idxSl P G ops i s = some (d, rows, n)) (h0 : 0 ≤ n) (hr : rows[n.toNat]? = some r) : StepL P G ops i s (opR ops i s ex) ([.t d (.snap r)]) := stepL_of (by
 simp only [idxSl] at h1
 split at h1
 ·rename_i o ho
  refine ⟨o, ho, ?_⟩
  split at h1
  ·rename_i t x j d' hop hdst
   split at h1
   ·rename_i hd
    split at h1
    ·rename_i ow size rows' k n' hx hj
     split at h1 <;> simp at h1
     rename_i hsz
     obtain ⟨rfl, rfl, rfl⟩ := h1
     have := effL_read (P := P) (G := G) (o := o) (s := s) (ex := ex) (c := .snap r) (by rw [hdst]; simpa [dstOk] using hd) (by
      rw [hop]
      simp only [readV, hx, hj, indexAddrV]
      unfold sliceSz at hsz
      split at hsz
      ·rename_i e he
       obtain ⟨ei, k1, k2⟩ := Option.map_eq_some_iff.1 hsz
       rw [he]
       simp only [k1, ← k2, if_true, if_pos h0, hr, Option.map_some]
      ·simp at hsz)
     rw [hdst] at this; exact this
    ·simp at h1
   ·simp at h1
  ·simp at h1
 ·simp at h1)
def idxRef (P : Program) (G : Nat → Option (List V)) (ops : Array Oper) (ex : List Nat) (i : Nat) (s : St) : Option (Nat × Nat × Nat × Nat × Int) :=
 match opAt ops i s with
 | some o => match o.op, o.dst with
  | .indexAddr t x j, some d => if d < s.n then match s.evC G o x, s.evC G o j with
    | some (.ref b off len), some (.int _ n) => match s.lookC o ex b with
     | some k => if sliceSz P t = some k.size then some (d, b, off, len, n) else none
     | none => none
    | _, _ => none
   else none
  | _, _ => none
 | none => none
def loadRow (G : Nat → Option (List V)) (ops : Array Oper) (ex : List Nat) (i : Nat) (s : St) : Option (TypeId × Nat × List (List V) × Nat × Nat) :=
 match opAt ops i s with
 | some o => match o.op, o.dst with
  | .load t x, some d => if d < s.n then match s.evC G o x with
    | some (.ptr b r off) => match s.lookC o ex b with
     | some k => some (t, d, k.rows, r, off)
     | none => none
    | _ => none
   else none
  | _, _ => none
 | none => none
theorem told_loadRow {t : TypeId} {d j off : Nat} {rows : List (List V)} {r : List V} {c : V} (h1 : loadRow G ops ex i s = some (t, d, rows, j, off)) (hr : rows[j]? = some r) (hc : loadCellsV P t (r.drop off) = some c) :
  StepL P G ops i s (opR ops i s ex) ([.t d c]) := stepL_of (by
 simp only [loadRow] at h1
 split at h1
 ·rename_i o ho
  refine ⟨o, ho, ?_⟩
  split at h1
  ·rename_i t' x d' hop hdst
   split at h1
   ·rename_i hd
    split at h1
    ·rename_i b r' off' hx
     split at h1 <;> simp at h1
     rename_i k hk
     obtain ⟨rfl, rfl, rfl, rfl, rfl⟩ := h1
     have := effL_read (P := P) (G := G) (o := o) (s := s) (ex := ex) (c := c) (by rw [hdst]; simpa [dstOk] using hd) (by
      rw [hop]
      simp only [readV, hx, Option.bind_some, loadV, cellsV, hk, hr, hc])
     rw [hdst] at this; exact this
    ·simp at h1
   ·simp at h1
  ·simp at h1
 ·simp at h1)
def storeRowV (P : Program) (t : TypeId) (size : Nat) (r : List V) (off : Nat) (c : V) : Option (List V) :=
 match P.info? t, boxV c with
 | some ti, some cs => if ti.size = cs.length ∧ off + cs.length ≤ size then some (spliceV r off cs) else none
 | _, _ => none
def storeRow (G : Nat → Option (List V)) (ops : Array Oper) (ex : List Nat) (i : Nat) (s : St) : Option (TypeId × Nat × Nat × List (List V) × Nat × Nat × V) :=
 match opAt ops i s with
 | some o => match o.op, o.dst with
  | .store t x y, none => match s.evC G o x, s.evC G o y with
   | some (.ptr b r off), some c => match s.lookC o ex b with
    | some k => if k.excl = true then some (t, b, k.size, k.rows, r, off, c) else none
    | none => none
   | _, _ => none
  | _, _ => none
 | none => none
theorem told_storeRowE {t : TypeId} {b size j off : Nat} {rows : List (List V)} {r r' : List V} {c : V} (h1 : storeRow G ops ex i s = some (t, b, size, rows, j, off, c)) (hr : rows[j]? = some r) (hc : storeRowV P t size r off c = some r') :
  ∃ o, opAt ops i s = some o ∧ EffL P G o s ex [.b b (some ⟨size, true, rows.set j r'⟩)] := (by
 simp only [storeRow] at h1
 split at h1
 ·rename_i o ho
  refine ⟨o, ho, ?_⟩
  split at h1
  ·rename_i t' x y hop hdst
   split at h1
   ·rename_i b' r0 off' c' hx hy
    split at h1
    ·rename_i k hk
     split at h1 <;> simp at h1
     rename_i hex
     obtain ⟨rfl, rfl, rfl, rfl, rfl, rfl, rfl⟩ := h1
     intro s2 hn ht hb hu
     have hk2 : cutB s2.b (opBs s o ++ ex) b' = some k := by rw [lookC_agree hb]; exact hk
     have hkb := cutB_le _ _ _ _ hk2
     have hst : storeBlkV P t' k r0 off' c' = some ⟨k.size, true, k.rows.set r0 r'⟩ := by
      unfold storeRowV at hc
      unfold storeBlkV
      split at hc
      ·rename_i ti cs h1 h2
       split at hc <;> simp at hc
       rename_i hcond
       subst hc
       simp only [h1, h2, hr]
       rw [if_pos ⟨hcond.1, hcond.2, hex⟩, hex]
      ·simp at hc
     exact effO_store' hop hdst (fun _ _ _ h => (h.cutT (opTemps o)).ev (by rw [evC_agree ht]; exact hx)) (fun _ _ _ h => (h.cutT (opTemps o)).ev (by rw [evC_agree ht]; exact hy)) hkb hst
    ·simp at h1
   ·simp at h1
  ·simp at h1
 ·simp at h1)
end
end Go.EV
namespace Go.EV
open Go
section
variable {P : Program} {G : Nat → Option (List V)} {ops : Array Oper} {s : St} {i : Nat} {ex : List Nat}
theorem ev_cut {s : St} {ts : List Nat} {x : Operand} {c : V} (h : (s.cutT ts).ev G x = some c) : c = .undef ∨ s.ev G x = some c := by
 cases x <;> try exact .inr h
 rename_i t
 simp only [St.ev, St.cutT, Option.some.injEq] at h ⊢
 split at h
 ·exact .inr h
 ·exact .inl h.symm
def dstL (look : Nat → Option Blk) (size : Nat) (c : V) : Option (Src × Bool) :=
 match c with
 | .nilsl => some (⟨none, 0, size, true, []⟩, true)
 | .ref b off len => match look b with
  | some k => some (⟨some b, off, size, k.excl, (k.rows.drop off).take len⟩, k.size == size && decide (off + len ≤ k.rows.length) && (k.excl || decide (off + len = k.rows.length)))
  | none => none
 | _ => none
theorem dstL_spec {look : Nat → Option Blk} {size : Nat} {c : V} {d : Src} (h : dstL look size c = some (d, true)) : dstV look size c = some d := by
 unfold dstL at h
 unfold dstV
 split at h
 ·simp only [Option.some.injEq, Prod.mk.injEq] at h; rw [← h.1]
 ·split at h
  ·rename_i k hk
   simp only [Option.some.injEq, Prod.mk.injEq, Bool.and_eq_true, Bool.or_eq_true, beq_iff_eq, decide_eq_true_eq] at h
   obtain ⟨rfl, ⟨h1, h2⟩, h3⟩ := h
   simp only [hk]
   rw [if_pos ⟨h1, h2, h3⟩]
  ·simp at h
 ·simp at h
def srcL (look : Nat → Option Blk) (size : Nat) (dst : Option Nat) (c : V) : Option (Src × Bool) :=
 match c with
 | .nilsl => some (⟨none, 0, size, true, []⟩, true)
 | .sl _ s rows => some (⟨none, 0, size, true, rows.map (·.map V.strip)⟩, s == size)
 | .ref b off len => match look b with
  | some k => some ((if dst = some b then ⟨none, 0, size, true, ((k.rows.drop off).take len).map (·.map V.strip)⟩ else ⟨some b, off, size, true, (k.rows.drop off).take len⟩), k.size == size && decide (off + len ≤ k.rows.length))
  | none => none
 | _ => none
theorem srcL_spec {look : Nat → Option Blk} {size : Nat} {dst : Option Nat} {c : V} {d : Src} (h : srcL look size dst c = some (d, true)) : srcV look size dst c = some d := by
 unfold srcL at h
 unfold srcV
 split at h
 ·simp only [Option.some.injEq, Prod.mk.injEq] at h; rw [← h.1]
 ·simp only [Option.some.injEq, Prod.mk.injEq, beq_iff_eq] at h
  simp only
  rw [if_pos h.2, h.1]
 ·split at h
  ·rename_i k hk
   simp only [Option.some.injEq, Prod.mk.injEq, Bool.and_eq_true, beq_iff_eq, decide_eq_true_eq] at h
   obtain ⟨h0, h1, h2⟩ := h
   simp only [hk]
   rw [if_pos ⟨h1, h2⟩, ← h0]
   split <;> rfl
  ·simp at h
 ·simp at h
def appAt (P : Program) (G : Nat → Option (List V)) (ops : Array Oper) (ex : List Nat) (i : Nat) (s : St) : Option (Nat × Src × Src × Nat × Nat × Bool) :=
  match opAt ops i s with
  | some o => match o.op, o.dst with
    | .call { callee := .builtin .append, args := as, argTypes := ts }, some d => if d < s.n ∧ s.u d = false then match as.toList, ts.toList with
        | [x, y], [t, t2] => match s.evC G o x, s.evC G o y, P.underlying t, P.underlying t2 with
          | some cx, some cy, some (.slice e), some (.slice _) => match P.info? e with
            | some ei => if 0 < ei.bytes ∧ (zeroV P e).map List.length = some ei.size then match dstL (s.lookC o ex) ei.size cx with
                | some (ds, c1) => match srcL (s.lookC o ex) ei.size ds.b cy with
                  | some (ss, c2) => some (d, ds, ss, ei.size, ei.bytes, c1 && c2)
                  | none => none
                | none => none
              else none
            | none => none
          | _, _, _, _ => none
        | _, _ => none
      else none
    | _, _ => none
  | none => none
def delW (b : Option Nat) : List Wr := match b with | some i => [.b i none] | none => []
theorem app_delW (s : St) (b : Option Nat) (ws : List Wr) : s.app (delW b ++ ws) = (s.delO b).app ws := by cases b <;> rfl
theorem dstV_mono {l1 l2 : Nat → Option Blk} (h : LookLe l1 l2) {size : Nat} {c : V} {d : Src} (he : dstV l1 size c = some d) : dstV l2 size c = some d := by
 unfold dstV at he ⊢
 split at he <;> try exact he
 rename_i b off len
 cases hb : l1 b with
 | none => rw [hb] at he; simp at he
 | some k => rw [hb] at he; simp only [h b k hb]; exact he
theorem srcV_mono {l1 l2 : Nat → Option Blk} (h : LookLe l1 l2) {size : Nat} {dst : Option Nat} {c : V} {d : Src} (he : srcV l1 size dst c = some d) : srcV l2 size dst c = some d := by
 unfold srcV at he ⊢
 split at he <;> try exact he
 rename_i b off len
 cases hb : l1 b with
 | none => rw [hb] at he; simp at he
 | some k => rw [hb] at he; simp only [h b k hb]; exact he
theorem told_appendE {d size bytes m : Nat} {ds ss : Src} {c : Bool} {rows : List (List V)} (h1 : appAt P G ops ex i s = some (d, ds, ss, size, bytes, c)) (hc : c = true) (hb : (ds.rows.length + ss.rows.length) * bytes ≤ 140737488355328)
  (hr : ds.rows ++ ss.rows = rows) (hm : ds.rows.length + ss.rows.length = m) : ∃ o, opAt ops i s = some o ∧ EffL P G o s ex (delW ds.b ++ (delW ss.b ++ [.b d (some ⟨size, ds.excl, rows⟩), .t d (.ref d 0 m)])) := (by
 subst hc hr hm
 simp only [appAt] at h1
 split at h1
 ·rename_i o ho
  refine ⟨o, ho, ?_⟩
  split at h1
  ·rename_i as ts d' hop hdst
   split at h1
   ·rename_i hd
    split at h1
    ·rename_i x y t t2 hxs hts
     split at h1
     ·rename_i cx cy e e2 hx hy ht ht2
      split at h1
      ·rename_i ei hi
       split at h1
       ·rename_i hz
        split at h1
        ·rename_i ds' c1 hds
         split at h1
         ·rename_i ss' c2 hss
          simp only [Option.some.injEq, Prod.mk.injEq, Bool.and_eq_true] at h1
          obtain ⟨rfl, rfl, rfl, rfl, rfl, rfl, rfl⟩ := h1
          intro s2 hn htm hbm hum
          have hax : as = #[x, y] := Array.toList_inj.1 (by rw [hxs])
          have hat : ts = #[t, t2] := Array.toList_inj.1 (by rw [hts])
          subst hax hat
          have le : LookLe (s.lookC o ex) s2.b := by rw [← lookC_agree hbm]; exact cutB_le _ _
          have k1 := dstV_mono le (dstL_spec hds)
          have k2 := srcV_mono le (srcL_spec hss)
          have ex1 : s2.ev G x = some cx := by
           rcases ev_cut (ts := opTemps o) (s := s2) (by rw [evC_agree htm]; exact hx) with rfl | h
           ·simp [dstL] at hds
           ·exact h
          have ex2 : s2.ev G y = some cy := by
           rcases ev_cut (ts := opTemps o) (s := s2) (by rw [evC_agree htm]; exact hy) with rfl | h
           ·simp [srcL] at hss
           ·exact h
          have := effO_append (P := P) (G := G) (st := s2) (ds0 := ds') (ss0 := ss') (k0 := ⟨ei.size, ds'.excl, ds'.rows ++ ss'.rows⟩) hop hdst (by rw [hn]; exact hd.1) (by rw [(hum d' hdst).2]; exact hd.2) ex1 ex2 (by
           unfold appendV
           simp only [ht, ht2, hi, k1, k2]
           rw [if_pos ⟨hb, hz.1, hz.2⟩])
          rw [app_delW, app_delW]
          exact this
         ·simp at h1
        ·simp at h1
       ·simp at h1
      ·simp at h1
     ·simp at h1
    ·simp at h1
   ·simp at h1
  ·simp at h1
 ·simp at h1)
def callAt (P : Program) (G : Nat → Option (List V)) (ops : Array Oper) (i : Nat) (s : St) : Option (Oper × FuncId × List V) :=
 match opAt ops i s with
 | some o => match o.op with
  | .call { callee := .value x, args := xs, argTypes := _ } => if dstOk s.n o.dst then match callArgs G (s.cutT (opTemps o)) x xs.toList with
    | some (f, cs) => match P.funcs[f]? with
     | some fn => if (fn.name == "runtime.NumGoroutine") = false ∧ fn.body.isNone = false then some (o, f, cs) else none
     | none => none
    | none => none
   else none
  | _ => none
 | none => none
theorem callArgs_cut {s s2 : St} {o : Oper} (h : ∀ t, t ∈ opTemps o → s2.t t = s.t t) (x : Operand) (xs : List Operand) : callArgs G (s2.cutT (opTemps o)) x xs = callArgs G (s.cutT (opTemps o)) x xs := by
 unfold callArgs
 rw [show (s2.cutT (opTemps o)).ev G = (s.cutT (opTemps o)).ev G from evC_agree h]
theorem callAt_spec {s : St} {o : Oper} {f : FuncId} {cs : List V} (h : callAt P G ops i s = some (o, f, cs)) :
  opAt ops i s = some o ∧ dstOk s.n o.dst = true ∧ ∃ x xs ts fn, o.op = .call { callee := .value x, args := xs, argTypes := ts } ∧ callArgs G (s.cutT (opTemps o)) x xs.toList = some (f, cs) ∧
   P.funcs[f]? = some fn ∧ (fn.name == "runtime.NumGoroutine") = false ∧ fn.body.isNone = false := by
 unfold callAt at h
 split at h
 ·rename_i o' ho
  split at h
  ·rename_i x xs ts hop
   split at h
   ·rename_i hd
    split at h
    ·rename_i f' cs' hca
     split at h
     ·rename_i fn hfn
      split at h <;> simp at h
      rename_i hc
      obtain ⟨rfl, rfl, rfl⟩ := h
      exact ⟨ho, hd, x, xs, ts, fn, hop, hca, hfn, hc.1, hc.2⟩
     ·simp at h
    ·simp at h
   ·simp at h
  ·simp at h
 ·simp at h
def viewAt (P : Program) (G : Nat → Option (List V)) (ops : Array Oper) (ex : List Nat) (fuel i : Nat) (s : St) : Option (Option Nat × FuncId × List V) :=
 match callAt P G ops i s with
 | some (o, f, cs) => (mapO (viewV (s.lookC o ex) fuel) cs).map fun ds => (o.dst, f, ds)
 | none => none
theorem told_view (fuel : Nat) {dst : Option Nat} {f : FuncId} {ds : List V} {r : V} (h1 : viewAt P G ops ex fuel i s = some (dst, f, ds)) (hc : PureC P G f ds r) (hr : flatB r = true) : StepL P G ops i s (opR ops i s ex) (dstW dst r) := stepL_of (by
 simp only [viewAt] at h1
 split at h1
 ·rename_i o f' cs hca
  obtain ⟨ds', hm, he⟩ := Option.map_eq_some_iff.1 h1
  simp only [Prod.mk.injEq] at he
  obtain ⟨rfl, rfl, rfl⟩ := he
  obtain ⟨ho, hd, x, xs, ts, fn, hop, hcs, hfn, hna, hbo⟩ := callAt_spec hca
  refine ⟨o, ho, fun s2 hn ht hb _ => ?_⟩
  rw [app_dstW]
  have le : LookLe (s.lookC o ex) s2.b := by rw [← lookC_agree hb]; exact cutB_le _ _
  exact effO_call_view (opTemps o) hop (by rw [callArgs_cut ht]; exact hcs) hfn hna hbo (mapO_congr hm fun x y hx => viewV_mono le fuel x y hx) hc hr (by rw [hn]; exact hd)
 ·simp at h1)
end
end Go.EV
namespace Go.EV
open Go
theorem dcell_data {d : V} (hd : dcell d = true) {γ : Gh} {w : World} {bs : Nat → Option Blk} {u : Nat → Bool} {v : Value} (hr : Rep γ w bs u d v) : RepD γ.lim w d v := by
 cases hr with
 | data h => exact h
 | undef => simp [dcell] at hd
 | ref => simp [dcell] at hd
 | refE => simp [dcell] at hd
 | refN => simp [dcell] at hd
 | deadRef => simp [dcell] at hd
 | ptr => simp [dcell] at hd
 | deadPtr => simp [dcell] at hd
 | mp => simp [dcell] at hd
 | deadMp => simp [dcell] at hd
 | fn f first captured fs cs h1 h2 _ _ =>
  simp only [dcell, Bool.and_eq_true, List.isEmpty_iff] at hd
  obtain ⟨rfl, rfl⟩ := hd
  exact .fn f [] [] fs cs h1 h2 (fun i c v hc => by simp at hc) (fun i c v hc => by simp at hc)
 | agg => simp [dcell] at hd
 | tup => simp [dcell] at hd
def shV (b : Nat) (k : Blk) (c : V) : V :=
 match c with
 | .ref b' off len => if b' = b then .sl false k.size ((k.rows.drop off).take len) else c
 | c => c
theorem Sim.shareL {G : Nat → Option (List V)} {γ : Gh} {st : St} {tmps : Array Value} {w : World} (h : Sim G γ st tmps w) {b : Nat} {k : Blk} (hb : st.b b = some k) (hd : ∀ r, r ∈ k.rows → ∀ c, c ∈ r → dcell c = true) :
  ∃ γ', Sim G γ' (st.delB b) tmps w ∧ Grow γ w γ' w ∧ Pin γ st.b st.u γ' (st.delB b).b (st.delB b).u ∧ γ'.loc = γ.loc ∧ ∀ c v, Rep γ w st.b st.u c v → Rep γ' w (st.delB b).b (st.delB b).u (shV b k c) v := by
 let γ' : Gh := { loc := γ.loc, own := γ.own, lim := fun B => match γ.loc b with | some (B0, o) => if B = B0 then max (γ.lim B) (o + k.rows.length * k.size) else γ.lim B | none => γ.lim B }
 have hlim : ∀ B, γ.lim B ≤ γ'.lim B ∧ (γ.own B ≠ some (.blk b) → γ'.lim B = γ.lim B) := fun B => by
  simp only [γ']
  rcases BlkOk.at (h.b b k hb) with h0 | ⟨B0, o, a1, a2⟩
  ·rw [h0]; exact ⟨Nat.le_refl _, fun _ => rfl⟩
  ·rw [a1]
   simp only
   by_cases hB : B = B0
   ·subst hB; rw [if_pos rfl]; exact ⟨Nat.le_max_left _ _, fun hx => absurd a2 hx⟩
   ·rw [if_neg hB]; exact ⟨Nat.le_refl _, fun _ => rfl⟩
 have g : Grow γ w γ' w := ⟨rfl, rfl, rfl, Nat.le_refl _, fun _ _ _ _ h => h, fun B _ => (hlim B).1, fun B _ ho => ⟨rfl, ho, (hlim B).2 (by rw [ho]; simp)⟩, fun _ cs _ _ h => ⟨cs, h, rfl⟩⟩
 have bl : BsLe γ st.b st.u γ' (st.delB b).b (st.delB b).u := by
  refine ⟨fun x hx => by simp only [St.delB]; split <;> simp_all, fun x _ hn => by simp only [St.delB]; split <;> simp_all, fun x q hq => ⟨by simp only [St.delB]; split; rfl; exact h.u x q hq, ?_⟩⟩
  by_cases hx : x = b
  ·exact .inl (by simp [St.delB, hx])
  ·exact .inr ⟨q, by simp [St.delB, hx, hq], rfl, fun _ => rfl, rfl⟩
 refine ⟨γ', ⟨h.n, fun i => (h.t i).mono g bl, fun x q hq => ?_, fun x q hq => ?_, h.g.grow g, h.o⟩, g, bl.pin, rfl, fun c v hr => ?_⟩
 ·have hne : x ≠ b := fun e => by subst e; simp [St.delB] at hq
  have hq' : st.b x = some q := by simpa [St.delB, hne] using hq
  rcases h.b x q hq' with h0 | hm | ⟨hM, B, o, cs, e, a1, a2, a3, a4, a5, a6, a7, a8⟩
  ·exact .inl h0
  ·exact .inr (.inl (hm.same rfl (fun B _ hB => ⟨hB, rfl⟩) fun c v hr => hr.mono g bl))
  have hl : γ'.lim B = γ.lim B := (hlim B).2 (by rw [a2]; simp [hne])
  refine .inr (.inr ⟨hM, B, o, cs, e, a1, a2, a3, a4, a5, fun i c hc => ?_, fun hx => hl.trans (a7 hx), by rw [hl]; exact a8⟩)
  obtain ⟨v, b1, b2, b3, b4⟩ := a6 i c hc
  exact ⟨v, b1, b2.mono g bl, b3, b4.mono fun B' hB' => ⟨hB', by rw [(hlim B').2 (by rw [hB']; simp)]; exact Nat.le_refl _⟩⟩
 ·simp only [St.delB] at hq ⊢
  split
  ·rfl
  ·rename_i hx; rw [if_neg hx] at hq; exact h.u x q hq
 ·cases c with
  | ref b' off len =>
   simp only [shV]
   split
   rotate_left
   ·exact hr.mono g bl
   rename_i e
   subst e
   rcases hr.ref_inv hb with ⟨B, o, cap, rfl, hl, hlen, hcap, _, hM, _⟩ | ⟨B, rfl, rfl, _⟩ | ⟨rfl, rfl, _⟩
   ·rcases h.b b' k hb with ⟨h0, _⟩ | hm | ⟨_, B', o', cs, e, g1, _, g3, g4, g5, g6, _, _⟩
    ·rw [hl] at h0; simp at h0
    ·exact (hm.small hM).elim
    rw [hl] at g1; simp only [Option.some.injEq, Prod.mk.injEq] at g1
    obtain ⟨rfl, rfl⟩ := g1
    have hrl : ((k.rows.drop off).take len).length = len := by simp; omega
    have hat : ∀ (j : Nat) (c : V), ((k.rows.drop off).take len).flatten[j]? = some c → ∃ x, (o + off * k.size + j < γ'.lim B ∧ cellAt w B (o + off * k.size + j) = some x) ∧ RepD γ'.lim w c x := fun j c hc => by
     obtain ⟨q1, _⟩ := flatten_cut k.rows g4 off len j c hc
     obtain ⟨x, x1, x2, _⟩ := g6 _ c q1
     obtain ⟨r, r1, r2⟩ := List.mem_flatten.1 (List.mem_of_getElem? q1)
     have hjl : off * k.size + j < k.rows.length * k.size := by
      have e1 := (List.getElem?_eq_some_iff.1 q1).1
      have e2 : k.rows.flatten.length = k.rows.length * k.size := by
       rw [List.length_flatten]
       have : k.rows.map List.length = List.replicate k.rows.length k.size := List.eq_replicate_iff.2 ⟨by simp, fun n hn => by obtain ⟨r, hr, rfl⟩ := List.mem_map.1 hn; exact g4 r hr⟩
       rw [this, List.sum_replicate_nat]
      omega
     refine ⟨x, ⟨?_, ?_⟩, (dcell_data (hd r r1 c r2) x2).mono fun B o v h1 h2 => ⟨Nat.lt_of_lt_of_le h1 (hlim B).1, h2⟩⟩
     ·simp only [γ', hl, if_true]; omega
     ·unfold cellAt World.cell?
      simp only [g3]
      simpa [Nat.add_assoc] using x1
    have := RepD.sl (lim := γ'.lim) (w := w) false k.size ((k.rows.drop off).take len) B (o + off * k.size) cap (fun j => (cellAt w B (o + off * k.size + j)).getD default) (by omega) (fun r hr => g4 r (List.mem_of_mem_drop (List.mem_of_mem_take hr)))
     (fun j c hc => by obtain ⟨x, x1, x2⟩ := hat j c hc; rw [x1.2]; exact ⟨x1.1, rfl⟩) (fun j c hc => by obtain ⟨x, x1, x2⟩ := hat j c hc; rw [x1.2]; exact x2)
    rw [hrl] at this
    exact .data this
   ·exact .data (by rw [List.take_zero]; exact .slNil false k.size (some B))
   ·exact .data (by rw [List.take_zero]; exact .slNil false k.size)
  | _ => exact hr.mono g bl
theorem Sim.share {G : Nat → Option (List V)} {γ : Gh} {st : St} {tmps : Array Value} {w : World} (h : Sim G γ st tmps w) {b : Nat} {k : Blk} (hb : st.b b = some k) (hd : ∀ r, r ∈ k.rows → ∀ c, c ∈ r → dcell c = true) :
  ∃ γ', Sim G γ' (st.delB b) tmps w ∧ Grow γ w γ' w ∧ Pin γ st.b st.u γ' (st.delB b).b (st.delB b).u ∧ ∀ c v, Rep γ w st.b st.u c v → Rep γ' w (st.delB b).b (st.delB b).u (shV b k c) v := by
 obtain ⟨γ', h1, h2, h3, _, h4⟩ := h.shareL hb hd
 exact ⟨γ', h1, h2, h3, h4⟩
end Go.EV
namespace Go.EV
open Go
def shAll (l : List (Nat × Blk)) (c : V) : V := l.foldl (fun c x => shV x.1 x.2 c) c
def St.delAll (st : St) (l : List (Nat × Blk)) : St := l.foldl (fun s x => s.delB x.1) st
theorem Sim.shares {G : Nat → Option (List V)} {tmps : Array Value} {w : World} : ∀ (l : List (Nat × Blk)) {γ : Gh} {st : St}, Sim G γ st tmps w → (∀ x, x ∈ l → st.b x.1 = some x.2) → (l.map (·.1)).Nodup →
  (∀ x, x ∈ l → ∀ r, r ∈ x.2.rows → ∀ c, c ∈ r → dcell c = true) →
  ∃ γ', Sim G γ' (st.delAll l) tmps w ∧ Grow γ w γ' w ∧ Pin γ st.b st.u γ' (st.delAll l).b (st.delAll l).u ∧ ∀ c v, Rep γ w st.b st.u c v → Rep γ' w (st.delAll l).b (st.delAll l).u (shAll l c) v
 | [], γ, st, h, _, _, _ => ⟨γ, h, .refl γ w, .refl h.u, fun _ _ h => h⟩
 | x :: l, γ, st, h, hb, hn, hd => by
  obtain ⟨γ1, h1, g1, p1, r1⟩ := h.share (hb x (by simp)) (hd x (by simp))
  simp only [List.map_cons, List.nodup_cons] at hn
  obtain ⟨γ2, h2, g2, p2, r2⟩ := Sim.shares l h1 (fun y hy => by
   have hne : y.1 ≠ x.1 := fun e => hn.1 (List.mem_map.2 ⟨y, hy, e⟩)
   show (if y.1 = x.1 then none else st.b y.1) = _
   rw [if_neg hne]; exact hb y (by simp [hy])) hn.2 (fun y hy => hd y (by simp [hy]))
  exact ⟨γ2, h2, g1.trans g2, p1.trans p2, fun c v hc => r2 _ _ (r1 c v hc)⟩
theorem delAll_n : ∀ (l : List (Nat × Blk)) (st : St), (st.delAll l).n = st.n ∧ (st.delAll l).t = st.t
 | [], _ => ⟨rfl, rfl⟩
 | x :: l, st => delAll_n l (st.delB x.1)
theorem delAll_in : ∀ (l : List (Nat × Blk)) (st : St) (j : Nat), (∃ x, x ∈ l ∧ x.1 = j) → (st.delAll l).b j = none ∧ (st.delAll l).u j = true
 | [], st, j, h => by obtain ⟨x, hx, _⟩ := h; simp at hx
 | x :: l, st, j, h => by
  by_cases hl : ∃ y, y ∈ l ∧ y.1 = j
  ·exact delAll_in l (st.delB x.1) j hl
  ·have hx : x.1 = j := by
    obtain ⟨y, hy, e⟩ := h
    rcases List.mem_cons.1 hy with rfl | hy
    ·exact e
    ·exact absurd ⟨y, hy, e⟩ hl
   have key : ∀ (l : List (Nat × Blk)) (st : St), (¬ ∃ y, y ∈ l ∧ y.1 = j) → (st.delAll l).b j = st.b j ∧ (st.delAll l).u j = st.u j := by
    intro l
    induction l with
    | nil => intro st _; exact ⟨rfl, rfl⟩
    | cons y l ih =>
     intro st hn
     have := ih (st.delB y.1) (fun ⟨z, hz, e⟩ => hn ⟨z, by simp [hz], e⟩)
     have hne : j ≠ y.1 := fun e => hn ⟨y, by simp, e.symm⟩
     refine ⟨this.1.trans ?_, this.2.trans ?_⟩
     ·show (if j = y.1 then none else st.b j) = _; rw [if_neg hne]
     ·show (if j = y.1 then true else st.u j) = _; rw [if_neg hne]
   have := key l (st.delB x.1) hl
   refine ⟨this.1.trans ?_, this.2.trans ?_⟩
   ·show (if j = x.1 then none else st.b j) = none; rw [if_pos hx.symm]
   ·show (if j = x.1 then true else st.u j) = true; rw [if_pos hx.symm]
theorem delAll_out : ∀ (l : List (Nat × Blk)) (st : St) (j : Nat), (¬ ∃ x, x ∈ l ∧ x.1 = j) → (st.delAll l).b j = st.b j ∧ (st.delAll l).u j = st.u j
 | [], st, j, _ => ⟨rfl, rfl⟩
 | y :: l, st, j, hn => by
  have := delAll_out l (st.delB y.1) j (fun ⟨z, hz, e⟩ => hn ⟨z, by simp [hz], e⟩)
  have hne : j ≠ y.1 := fun e => hn ⟨y, by simp, e.symm⟩
  refine ⟨this.1.trans ?_, this.2.trans ?_⟩
  ·show (if j = y.1 then none else st.b j) = _; rw [if_neg hne]
  ·show (if j = y.1 then true else st.u j) = _; rw [if_neg hne]
theorem app_b_out (W : List (Nat × Option Blk)) (st : St) (j : Nat) (h : ¬ ∃ x, x ∈ W ∧ x.1 = j) : (st.app (W.map fun x => .b x.1 x.2)).b j = st.b j ∧ (st.app (W.map fun x => .b x.1 x.2)).u j = st.u j :=
 app_other (l := .b j) _ st fun x hx e => by
  obtain ⟨y, hy, rfl⟩ := List.mem_map.1 hx
  simp only [Wr.loc, Loc.b.injEq] at e
  exact h ⟨y, hy, e⟩
theorem app_b_in (v : Option Blk) : ∀ (W : List (Nat × Option Blk)) (st : St) (j : Nat), (∀ x, x ∈ W → x.1 = j → x.2 = v) → (∃ x, x ∈ W ∧ x.1 = j) → (st.app (W.map fun x => .b x.1 x.2)).b j = v ∧ (st.app (W.map fun x => .b x.1 x.2)).u j = true
 | [], _, _, _, h => by obtain ⟨x, hx, _⟩ := h; simp at hx
 | x :: W, st, j, hv, h => by
  by_cases hl : ∃ y, y ∈ W ∧ y.1 = j
  ·exact app_b_in v W (st.wr (.b x.1 x.2)) j (fun y hy => hv y (by simp [hy])) hl
  ·have hx : x.1 = j := by
    obtain ⟨y, hy, e⟩ := h
    rcases List.mem_cons.1 hy with rfl | hy
    ·exact e
    ·exact absurd ⟨y, hy, e⟩ hl
   have k := app_b_out W (st.wr (.b x.1 x.2)) j hl
   have hx2 := hv x (by simp) hx
   obtain ⟨xa, xb⟩ := x
   simp only at hx hx2
   subst hx hx2
   refine ⟨k.1.trans ?_, k.2.trans ?_⟩
   ·cases xb with
    | none => show (if xa = xa then none else st.b xa) = none; simp
    | some q => show (if xa = xa then some q else st.b xa) = some q; simp
   ·cases xb with
    | none => show (if xa = xa then true else st.u xa) = true; simp
    | some q => show (if xa = xa then true else st.u xa) = true; simp
theorem app_b_nt (W : List (Nat × Option Blk)) (st : St) : (st.app (W.map fun x => .b x.1 x.2)).n = st.n ∧ (st.app (W.map fun x => .b x.1 x.2)).t = st.t :=
 ⟨app_n _ _, funext fun i => app_other (l := .t i) _ st fun x hx e => by
  obtain ⟨y, _, rfl⟩ := List.mem_map.1 hx
  simp [Wr.loc] at e⟩
def toCaller (L : List (Nat × Nat)) (c : Nat) : Nat := match L.find? (fun x => x.1 == c) with | some x => x.2 | none => 0
def toCallee (L : List (Nat × Nat)) (j : Nat) : Nat := match L.find? (fun x => x.2 == j) with | some x => x.1 | none => 0
def ofL (l : List (Nat × Blk)) (i : Nat) : Option Blk := match l.find? (fun x => x.1 == i) with | some x => some x.2 | none => none
abbrev outW (L : List (Nat × Nat)) (O : List (Nat × Blk)) (sh : List Nat) : List (Nat × Option Blk) := (L.map fun (x : Nat × Nat) => (x.2, (ofL O x.1).map (Blk.ren (toCaller L)))) ++ (sh.map fun (b : Nat) => (b, none))
def idsOk (Li Lo : List (Nat × Nat)) (sh : List Nat) : Bool :=
 (Li ++ Lo).all (fun x => toCaller (Li ++ Lo) x.1 == x.2 && toCallee (Li ++ Lo) x.2 == x.1 && !sh.contains x.2) && Li.all (fun x => uPin x.1) && Lo.all (fun x => !(Li.any fun y => y.1 == x.1)) && decide sh.Nodup
section
variable {P : Program} {G : Nat → Option (List V)} {ops : Array Oper} {s : St} {i : Nat} {ex : List Nat}
def callG (P : Program) (G : Nat → Option (List V)) (ops : Array Oper) (ex : List Nat) (Li Lo : List (Nat × Nat)) (sh : List Nat) (i : Nat) (s : St) : Option (Option Nat × FuncId × List V × List (Nat × Blk) × List (Nat × Blk)) :=
 match callAt P G ops i s with
 | some (o, f, cs) => match mapO (fun b => (s.lookC o ex b).map fun k => (b, k)) sh, mapO (fun x => (s.lookC o ex x.2).map fun k => (x.1, k)) Li with
  | some shl, some bl => if (refsL (cs.map (shAll shl))).all (fun b => Li.any fun x => x.2 == b) = true ∧ Lo.all (fun x => ex.contains x.2 && !s.u x.2) = true then some (o.dst, f, renL (toCallee (Li ++ Lo)) (cs.map (shAll shl)), bl, shl) else none
  | _, _ => none
 | none => none
theorem ofL_some {l : List (Nat × Blk)} {c : Nat} {k : Blk} (h : ofL l c = some k) : (c, k) ∈ l := by
 unfold ofL at h
 split at h
 ·rename_i x hx
  simp only [Option.some.injEq] at h
  have h1 := List.mem_of_find?_eq_some hx
  have h2 : x.1 = c := by simpa using List.find?_some hx
  rw [← h2, ← h]; exact h1
 ·simp at h
theorem told_call (Li Lo : List (Nat × Nat)) (sh : List Nat) {dst : Option Nat} {f : FuncId} {as : List V} {bl shl I O : List (Nat × Blk)} {res : V} {ws : List Wr} (hids : idsOk Li Lo sh = true)
  (h1 : callG P G ops ex Li Lo sh i s = some (dst, f, as, bl, shl)) (hc : CallC P G f as (ofL I) res (ofL O))
  (hI : bl.map (fun x => (x.1, x.2.ren (toCallee (Li ++ Lo)))) = I) (hsd : ∀ x, x ∈ shl → ∀ r, r ∈ x.2.rows → ∀ c, c ∈ r → dcell c = true)
  (hbr : ∀ x, x ∈ bl → ∀ b, b ∈ refsL x.2.rows.flatten → (Li.any fun x => x.2 == b) = true)
  (hO : ∀ x, x ∈ O → ((Li ++ Lo).any fun y => y.1 == x.1) = true ∧ ∀ b, b ∈ refsL x.2.rows.flatten → ((Li ++ Lo).any fun y => y.1 == b) = true)
  (hres : (refsV res).all (fun b => (Li ++ Lo).any fun y => y.1 == b) = true)
  (hws : ((outW (Li ++ Lo) O sh).map fun x => Wr.b x.1 x.2) ++ dstW dst (renV (toCaller (Li ++ Lo)) res) = ws) :
  StepL P G ops i s (opR ops i s ex) (ws) := stepL_of (by
 subst hws hI
 simp only [callG] at h1
 split at h1
 ·rename_i o f' cs hca
  split at h1
  ·rename_i shl' bl' hshl hbl
   split at h1 <;> simp at h1
   rename_i hcond
   obtain ⟨rfl, rfl, rfl, rfl, rfl⟩ := h1
   obtain ⟨ho, hd, x, xs, ts, fn, hop, hcs, hfn, hna, hbo⟩ := callAt_spec hca
   refine ⟨o, ho, fun s2 hn ht hb _ => ?_⟩

   simp only [idsOk, Bool.and_eq_true, List.all_eq_true, beq_iff_eq, decide_eq_true_eq, Bool.not_eq_true'] at hids
   obtain ⟨⟨⟨i1, i2⟩, i3⟩, i4⟩ := hids
   have memAny : ∀ {l : List (Nat × Nat)} {c : Nat}, (l.any fun y => y.1 == c) = true → ∃ y, y ∈ l ∧ y.1 = c := fun h => by
    obtain ⟨y, hy, e⟩ := List.any_eq_true.1 h; exact ⟨y, hy, by simpa using e⟩
   have memAny2 : ∀ {l : List (Nat × Nat)} {c : Nat}, (l.any fun y => y.2 == c) = true → ∃ y, y ∈ l ∧ y.2 = c := fun h => by
    obtain ⟨y, hy, e⟩ := List.any_eq_true.1 h; exact ⟨y, hy, by simpa using e⟩
   have anyMem : ∀ {l : List (Nat × Nat)} {y : Nat × Nat}, y ∈ l → (l.any fun z => z.1 == y.1) = true := fun h => List.any_eq_true.2 ⟨_, h, by simp⟩
   have cr : ∀ y, y ∈ Li ++ Lo → toCaller (Li ++ Lo) y.1 = y.2 := fun y hy => (i1 y hy).1.1
   have ce : ∀ y, y ∈ Li ++ Lo → toCallee (Li ++ Lo) y.2 = y.1 := fun y hy => (i1 y hy).1.2
   have nsh : ∀ y, y ∈ Li ++ Lo → ¬ y.2 ∈ sh := fun y hy hm => by have := (i1 y hy).2; simp [hm] at this
   have inL : ∀ {y}, y ∈ Li → y ∈ Li ++ Lo := fun h => List.mem_append_left _ h
   have shfst : shl'.map (·.1) = sh := by
    have : ∀ (l : List Nat) (r : List (Nat × Blk)), mapO (fun b => (s.lookC o ex b).map fun k => (b, k)) l = some r → r.map (·.1) = l := by
     intro l
     induction l with
     | nil => intro r h; simp [mapO] at h; subst h; rfl
     | cons b l ih =>
      intro r h
      simp only [mapO] at h
      split at h
      ·rename_i y r' e1 e2
       simp only [Option.some.injEq] at h; subst h
       obtain ⟨k, _, rfl⟩ := Option.map_eq_some_iff.1 e1
       simp [ih r' e2]
      ·simp at h
    exact this sh shl' hshl
   have le : ∀ b k, s.lookC o ex b = some k → s2.b b = some k := fun b k h => by rw [← lookC_agree hb] at h; exact cutB_le _ _ b k h
   have shb : ∀ y, y ∈ shl' → s2.b y.1 = some y.2 := fun y hy => by
    obtain ⟨j, hj⟩ := List.mem_iff_getElem?.1 hy
    obtain ⟨b, _, e⟩ := mapO_get hshl j y hj
    obtain ⟨k, e1, rfl⟩ := Option.map_eq_some_iff.1 e
    exact le _ _ e1
   have shIn : ∀ j, (∃ y, y ∈ shl' ∧ y.1 = j) ↔ j ∈ sh := fun j => by rw [← shfst, List.mem_map]
   have blk : ∀ y, y ∈ Li → ∃ k, s.lookC o ex y.2 = some k ∧ (y.1, k) ∈ bl' := fun y hy => by
    obtain ⟨j, hj⟩ := List.mem_iff_getElem?.1 hy
    have hlen := mapO_len hbl
    have hjl : j < bl'.length := by rw [hlen]; exact (List.getElem?_eq_some_iff.1 hj).1
    obtain ⟨y', e0, e⟩ := mapO_get hbl j _ (List.getElem?_eq_getElem hjl)
    rw [hj] at e0; simp only [Option.some.injEq] at e0; subst e0
    obtain ⟨k, e1, e2⟩ := Option.map_eq_some_iff.1 e
    exact ⟨k, e1, by rw [e2]; exact List.getElem_mem _⟩
   have blFrom : ∀ z, z ∈ bl' → ∃ y, y ∈ Li ∧ y.1 = z.1 ∧ s.lookC o ex y.2 = some z.2 := fun z hz => by
    obtain ⟨j, hj⟩ := List.mem_iff_getElem?.1 hz
    obtain ⟨y, e0, e⟩ := mapO_get hbl j z hj
    obtain ⟨k, e1, rfl⟩ := Option.map_eq_some_iff.1 e
    exact ⟨y, List.mem_of_getElem? e0, rfl, e1⟩
   let st1 := s2.delAll shl'
   have key := effO_callS (P := P) (G := G) (o := o) (st0 := s2) (st := st1) (cs := cs.map (shAll shl')) (K := fun c => (Li ++ Lo).any fun y => y.1 == c) (Kin := fun c => Li.any fun y => y.1 == c) (toCaller (Li ++ Lo)) (toCallee (Li ++ Lo))
    (fun γ a w hsim => by
     obtain ⟨γ1, q1, q2, q3, q4⟩ := hsim.shares shl' shb (by rw [shfst]; exact i4) hsd
     obtain ⟨as, hrun, hargs⟩ := callArgs_spec (P := P) (hsim.cutT (opTemps o)) hop (by rw [callArgs_cut ht]; exact hcs) hfn hna hbo
     refine ⟨γ1, as, q1, q2, q3, hrun, by rw [List.length_map]; exact hargs.1, fun j c v hc hv => ?_⟩
     rw [List.getElem?_map, Option.map_eq_some_iff] at hc
     obtain ⟨c0, k1, rfl⟩ := hc
     exact q4 c0 v (hargs.2 j c0 v k1 hv))
    (fun c hK => by obtain ⟨y, hy, rfl⟩ := memAny hK; rw [cr y hy, ce y hy])
    (fun c hK => by
     obtain ⟨y, hy, rfl⟩ := memAny hK
     exact ⟨anyMem (inL hy), i2 y hy⟩)
    (ins := ofL (bl'.map fun x => (x.1, x.2.ren (toCallee (Li ++ Lo)))))
    (fun c hK => by
     obtain ⟨y, hy, rfl⟩ := memAny hK
     obtain ⟨k, e1, e2⟩ := blk y hy
     refine ⟨k, ?_, ?_, fun b hbk => ?_⟩
     ·rw [cr y (inL hy)]
      exact (delAll_out shl' s2 y.2 (by rw [shIn]; exact nsh y (inL hy))).1.trans (le _ _ e1)
     ·unfold ofL
      cases hf : (bl'.map fun x => (x.1, x.2.ren (toCallee (Li ++ Lo)))).find? (fun x => x.1 == y.1) with
      | none =>
       have := List.find?_eq_none.1 hf (y.1, k.ren (toCallee (Li ++ Lo))) (List.mem_map.2 ⟨_, e2, rfl⟩)
       simp at this
      | some z =>
       obtain ⟨z0, z1, rfl⟩ := List.mem_map.1 (List.mem_of_find?_eq_some hf)
       have z2 : z0.1 = y.1 := by simpa using List.find?_some hf
       obtain ⟨y', y1, y2, y3⟩ := blFrom z0 z1
       have : y'.2 = y.2 := by rw [← cr y' (inL y1), ← cr y (inL hy), y2, z2]
       rw [this, e1] at y3
       simp only [Option.some.injEq] at y3
       simp only [y3]
     ·obtain ⟨z, hz, rfl⟩ := memAny2 (hbr _ e2 b hbk)
      rw [ce z (inL hz), cr z (inL hz)]
      exact ⟨anyMem hz, rfl⟩)
    (fun c hK => by
     cases hf : ofL (bl'.map fun x => (x.1, x.2.ren (toCallee (Li ++ Lo)))) c with
     | none => rfl
     | some k =>
      obtain ⟨z0, z1, e⟩ := List.mem_map.1 (ofL_some hf)
      obtain ⟨y, y1, y2, _⟩ := blFrom z0 z1
      simp only [Prod.mk.injEq] at e
      have := anyMem y1
      rw [y2, e.1, hK] at this; simp at this)
    (fun c hK hKi => by
     obtain ⟨y, hy, rfl⟩ := memAny hK
     rw [cr y hy]
     have hyo : y ∈ Lo := by
      rcases List.mem_append.1 hy with h | h
      ·have := anyMem h; rw [hKi] at this; simp at this
      ·exact h
     have := List.all_eq_true.1 hcond.2 y hyo
     simp only [Bool.and_eq_true, Bool.not_eq_true'] at this
     have e : s2.u y.2 = s.u y.2 := (hb y.2 (by have h := this.1; simp at h; simp [h])).2
     exact (delAll_out shl' s2 y.2 (by rw [shIn]; exact nsh y hy)).2.trans (e.trans this.2))
    (outs := ofL O)
    (fun c k hk => by
     have := hO _ (ofL_some hk)
     exact this)
    (fun b hbr => List.all_eq_true.1 hres b hbr)
    (fun b hbr => by
     obtain ⟨z, hz, rfl⟩ := memAny2 (List.all_eq_true.1 hcond.1 b hbr)
     rw [ce z (inL hz), cr z (inL hz)]
     exact ⟨anyMem hz, rfl⟩)
    hc (by rw [show st1.n = s2.n from (delAll_n shl' s2).1, hn]; exact hd)

   have hst : st1.after (fun j => ((Li ++ Lo).any fun y => y.1 == toCallee (Li ++ Lo) j) && (toCaller (Li ++ Lo) (toCallee (Li ++ Lo) j) == j)) (toCallee (Li ++ Lo)) (toCaller (Li ++ Lo)) (ofL O) =
     s2.app ((outW (Li ++ Lo) O sh).map fun x => Wr.b x.1 x.2) := by
    have nt := app_b_nt (outW (Li ++ Lo) O sh) s2
    refine St.ext' ((delAll_n shl' s2).1.trans nt.1.symm) fun l => ?_
    cases l with
    | t q => exact congrFun ((delAll_n shl' s2).2.trans nt.2.symm) q
    | b j =>
     by_cases hj : ∃ y, y ∈ Li ++ Lo ∧ y.2 = j
     ·obtain ⟨y, hy, rfl⟩ := hj
      have hJ : (((Li ++ Lo).any fun z => z.1 == toCallee (Li ++ Lo) y.2) && (toCaller (Li ++ Lo) (toCallee (Li ++ Lo) y.2) == y.2)) = true := by
       rw [ce y hy, cr y hy, anyMem hy]; simp
      obtain ⟨k1, k2⟩ := app_b_in ((ofL O y.1).map (Blk.ren (toCaller (Li ++ Lo)))) (outW (Li ++ Lo) O sh) s2 y.2 (fun z hz e => by
       rcases List.mem_append.1 hz with hz | hz
       ·obtain ⟨z0, hz0, rfl⟩ := List.mem_map.1 hz
        simp only at e ⊢
        rw [← ce z0 hz0, e, ce y hy]
       ·obtain ⟨b, hb0, rfl⟩ := List.mem_map.1 hz
        simp only at e
        exact absurd (e ▸ hb0) (nsh y hy)) ⟨_, List.mem_append_left _ (List.mem_map.2 ⟨y, hy, rfl⟩), rfl⟩
      refine ⟨Eq.trans ?_ k1.symm, Eq.trans ?_ k2.symm⟩
      ·show (if _ then _ else _) = _
       rw [if_pos hJ, ce y hy]
      ·simp only [St.after, hJ, Bool.true_or]
     ·have hJ : (((Li ++ Lo).any fun z => z.1 == toCallee (Li ++ Lo) j) && (toCaller (Li ++ Lo) (toCallee (Li ++ Lo) j) == j)) = false := by
       cases h : (((Li ++ Lo).any fun z => z.1 == toCallee (Li ++ Lo) j) && (toCaller (Li ++ Lo) (toCallee (Li ++ Lo) j) == j)) with
       | false => rfl
       | true =>
        simp only [Bool.and_eq_true, beq_iff_eq] at h
        obtain ⟨z, hz, e⟩ := memAny h.1
        exact absurd ⟨z, hz, by rw [← cr z hz, e]; exact h.2⟩ hj
      have ha : (st1.after (fun j => ((Li ++ Lo).any fun y => y.1 == toCallee (Li ++ Lo) j) && (toCaller (Li ++ Lo) (toCallee (Li ++ Lo) j) == j)) (toCallee (Li ++ Lo)) (toCaller (Li ++ Lo)) (ofL O)).b j = st1.b j ∧
        (st1.after (fun j => ((Li ++ Lo).any fun y => y.1 == toCallee (Li ++ Lo) j) && (toCaller (Li ++ Lo) (toCallee (Li ++ Lo) j) == j)) (toCallee (Li ++ Lo)) (toCaller (Li ++ Lo)) (ofL O)).u j = st1.u j := by
       simp only [St.after, hJ]; exact ⟨rfl, rfl⟩
      by_cases hs' : j ∈ sh
      ·obtain ⟨k1, k2⟩ := app_b_in none (outW (Li ++ Lo) O sh) s2 j (fun z hz e => by
        rcases List.mem_append.1 hz with hz | hz
        ·obtain ⟨z0, hz0, rfl⟩ := List.mem_map.1 hz
         exact absurd ⟨z0, hz0, e⟩ hj
        ·obtain ⟨b, _, rfl⟩ := List.mem_map.1 hz
         rfl) ⟨_, List.mem_append_right _ (List.mem_map.2 ⟨j, hs', rfl⟩), rfl⟩
       obtain ⟨d1, d2⟩ := delAll_in shl' s2 j ((shIn j).2 hs')
       exact ⟨(ha.1.trans d1).trans k1.symm, (ha.2.trans d2).trans k2.symm⟩
      ·obtain ⟨k1, k2⟩ := app_b_out (outW (Li ++ Lo) O sh) s2 j (fun ⟨z, hz, e⟩ => by
        rcases List.mem_append.1 hz with hz | hz
        ·obtain ⟨z0, hz0, rfl⟩ := List.mem_map.1 hz
         exact hj ⟨z0, hz0, e⟩
        ·obtain ⟨b, hb0, rfl⟩ := List.mem_map.1 hz
         exact hs' (e ▸ hb0))
       obtain ⟨d1, d2⟩ := delAll_out shl' s2 j (by rw [shIn]; exact hs')
       exact ⟨(ha.1.trans d1).trans k1.symm, (ha.2.trans d2).trans k2.symm⟩
   rw [show ∀ (A B : List Wr), s2.app (A ++ B) = (s2.app A).app B from fun A B => List.foldl_append .., app_dstW, ← hst]
   exact key
  ·simp at h1
 ·simp at h1)
end
end Go.EV
namespace Go.EV
open Go
end Go.EV
namespace Go.EV
open Go
def Gst (G : Nat → Option (List V)) (st st' : St) : Prop :=
 ∀ (γ : Gh) (tmps : Array Value) (w : World), Sim G γ st tmps w → ∃ γ', Sim G γ' st' tmps w ∧ Grow γ w γ' w ∧ Pin γ st.b st.u γ' st'.b st'.u
theorem TV.ghost {P : Program} {G : Nat → Option (List V)} {c : Code} {st st' : St} {Q : Exit → St → Prop} (g : Gst G st st') (h : TV P G c st' Q) : TV P G c st Q := fun fx γ a w hs hd => by
 obtain ⟨γ', h1, h2, h3⟩ := g γ a.tmps w hs
 exact wpIn_mono (h fx γ' a w h1 (hd.grow h2 hd.1)) fun _ _ _ hl => hl.grow ⟨h2, h3⟩
theorem Gst.trans {G : Nat → Option (List V)} {a b c : St} (h : Gst G a b) (k : Gst G b c) : Gst G a c := fun γ tmps w hs => by
 obtain ⟨γ1, h1, h2, h3⟩ := h γ tmps w hs
 obtain ⟨γ2, k1, k2, k3⟩ := k γ1 tmps w h1
 exact ⟨γ2, k1, h2.trans k2, h3.trans k3⟩
theorem Gst.forget {G : Nat → Option (List V)} {st st' : St} (f : Forget st st') : Gst G st st' := fun γ _ w hs => ⟨γ, f.sim hs, .refl γ w, f.pin hs⟩
theorem Sim.virt {G : Nat → Option (List V)} {γ : Gh} {st : St} {tmps : Array Value} {w : World} (h : Sim G γ st tmps w) {d size : Nat} (hu : st.u d = false) :
  ∃ γ', Sim G γ' (st.setB d ⟨size, true, []⟩) tmps w ∧ Grow γ w γ' w ∧ BsLe γ st.b st.u γ' (st.setB d ⟨size, true, []⟩).b (st.setB d ⟨size, true, []⟩).u := by
 let γ' : Gh := { loc := fun b => if b = d then none else γ.loc b, own := γ.own, lim := γ.lim }
 have g : Grow γ w γ' w := ⟨rfl, rfl, rfl, Nat.le_refl _, fun _ _ _ _ h => h, fun _ _ => Nat.le_refl _, fun _ _ h => ⟨rfl, h, rfl⟩, fun _ cs _ _ h => ⟨cs, h, rfl⟩⟩
 have bl : BsLe γ st.b st.u γ' (st.setB d ⟨size, true, []⟩).b (st.setB d ⟨size, true, []⟩).u := h.bsLe_new hu fun b hb => by simp only [γ']; rw [if_neg hb]
 refine ⟨γ', ⟨h.n, fun i => (h.t i).mono g bl, fun b k hk => ?_, fun b k hk => ?_, h.g.grow g, h.o⟩, g, bl⟩
 ·simp only [St.setB] at hk
  by_cases hb : b = d
  ·subst hb
   rw [if_pos rfl] at hk
   simp only [Option.some.injEq] at hk; subst hk
   exact .inl ⟨by simp [γ'], rfl⟩
  ·rw [if_neg hb] at hk
   rcases h.b b k hk with ⟨v1, v2⟩ | hm | ⟨hM, B, o, cs', e', h1, h2, h3, h4, h5, h6, h7, h8⟩
   ·exact .inl ⟨by simp only [γ']; rw [if_neg hb]; exact v1, v2⟩
   ·exact .inr (.inl (hm.same (by simp only [γ']; rw [if_neg hb]) (fun B _ hB => ⟨hB, rfl⟩) fun c v hr => hr.mono g bl))
   ·refine .inr (.inr ⟨hM, B, o, cs', e', by simp only [γ']; rw [if_neg hb]; exact h1, h2, h3, h4, h5, fun i c hc => ?_, h7, h8⟩)
    obtain ⟨v, a1, a2, a3, a4⟩ := h6 i c hc
    exact ⟨v, a1, a2.mono g bl, a3, a4⟩
 ·simp only [St.setB] at hk ⊢
  by_cases hb : b = d
  ·subst hb; simp
  ·rw [if_neg hb] at hk; rw [if_neg hb]; exact h.u b k hk
theorem Gst.virtT {G : Nat → Option (List V)} {st : St} {d t : Nat} (size : Nat) (hM : size < MAPS) (hu : st.u d = false) (ht : st.t t = .nilsl) : Gst G st ((st.setB d ⟨size, true, []⟩).setT t (.ref d 0 0)) := fun γ tmps w hs => by
 obtain ⟨γ', h1, h2, h3⟩ := hs.virt (size := size) hu
 refine ⟨γ', ⟨h1.n, fun i => ?_, h1.b, h1.u, h1.g, h1.o⟩, h2, h3.pin⟩
 show Rep γ' w _ _ (if i = t then _ else st.t i) _
 by_cases hi : i = t
 ·subst hi
  rw [if_pos rfl]
  have inv : ∀ v : Value, Rep γ w st.b st.u .nilsl v → v = .slice none 0 0 := fun v hv => by
   cases hv with
   | data h => cases h; rfl
  have hv : tmps.getD i undef = .slice none 0 0 := inv _ (by rw [← ht]; exact hs.t i)
  rw [hv]
  exact .refN d 0 ⟨size, true, []⟩ (by simp [St.setB, St.setT]) hM rfl
 ·rw [if_neg hi]; exact h1.t i
end Go.EV
namespace Go.EV
open Go
theorem flatten_set_get {s : Nat} {rows : List (List V)} (hs : ∀ r, r ∈ rows → r.length = s) {i j : Nat} {row : List V} {c' : V} (hrow : rows[i]? = some row) (hj : j < row.length) {idx : Nat} {c : V}
  (h : (rows.set i (row.set j c')).flatten[idx]? = some c) : 0 < s ∧ ((idx = i * s + j ∧ c = c') ∨ (idx ≠ i * s + j ∧ rows.flatten[idx]? = some c)) := by
 have hi : i < rows.length := (List.getElem?_eq_some_iff.1 hrow).1
 have hrl : row.length = s := hs row (List.mem_of_getElem? hrow)
 have hpos : 0 < s := by omega
 have hall : ∀ q, q ∈ rows.set i (row.set j c') → q.length = s := fun q hq => by
  rcases List.mem_or_eq_of_mem_set hq with hq | rfl
  ·exact hs q hq
  ·simpa using hrl
 have e : idx = (idx / s) * s + idx % s := by rw [Nat.mul_comm]; exact (Nat.div_add_mod idx s).symm
 have hm := Nat.mod_lt idx hpos
 have hget := flatten_get _ hall (idx / s) (idx % s) hm
 rw [← e, h] at hget
 refine ⟨hpos, ?_⟩
 by_cases hq : idx / s = i
 ·rw [hq, List.getElem?_set_self hi] at hget
  simp only [Option.bind_some] at hget
  by_cases hj' : idx % s = j
  ·rw [hj', List.getElem?_set_self hj] at hget
   left
   refine ⟨by rw [hq, hj'] at e; exact e, ?_⟩
   simpa using hget
  ·rw [List.getElem?_set_ne (fun x => hj' x.symm)] at hget
   right
   refine ⟨fun x => hj' ?_, ?_⟩
   ·rw [x, Nat.mul_comm, Nat.mul_add_mod, Nat.mod_eq_of_lt (by omega)]
   ·rw [e, flatten_get rows hs _ _ hm, hq, hrow]; exact hget.symm
 ·rw [List.getElem?_set_ne (fun x => hq x.symm)] at hget
  right
  refine ⟨fun x => hq ?_, ?_⟩
  ·rw [x, Nat.mul_comm, Nat.mul_add_div hpos, Nat.div_eq_of_lt (by omega)]; rfl
  ·rw [e, flatten_get rows hs _ _ hm]; exact hget.symm
theorem flatten_len {s : Nat} (rows : List (List V)) (hs : ∀ r, r ∈ rows → r.length = s) : rows.flatten.length = rows.length * s := by
 rw [List.length_flatten]
 have : rows.map List.length = List.replicate rows.length s := List.eq_replicate_iff.2 ⟨by simp, fun n hn => by obtain ⟨r, hr, rfl⟩ := List.mem_map.1 hn; exact hs r hr⟩
 rw [this, List.sum_replicate_nat]
theorem BlkOk.slData {γ : Gh} {w : World} {bs : Nat → Option Blk} {u : Nat → Bool} {d : Nat} {kd : Blk} (hd : BlkOk γ w bs u d kd) (hdata : ∀ r, r ∈ kd.rows → ∀ c, c ∈ r → dcell c = true) {lim' : Nat → Nat}
  (hle : ∀ B, γ.lim B ≤ lim' B) (hl : ∀ B o, γ.loc d = some (B, o) → o + kd.rows.length * kd.size ≤ lim' B) {v : Value} (hk : bs d = some kd) {off : Nat} (_ : off ≤ kd.rows.length) (h : Rep γ w bs u (.ref d off (kd.rows.length - off)) v) (own : Bool) :
  RepD lim' w (.sl own kd.size (kd.rows.drop off)) v := by
 rcases h.ref_inv hk with ⟨B, o, cap, rfl, h1, _, h3, _, hM, _⟩ | ⟨B, hv, h0, _⟩ | ⟨hv, h0, _⟩
 ·rcases hd with ⟨h0, _⟩ | hm | ⟨_, B', o', cs, e, g1, _, g3, g4, g5, g6, _, _⟩
  ·rw [h1] at h0; simp at h0
  ·exact (hm.small hM).elim
  rw [h1] at g1; simp only [Option.some.injEq, Prod.mk.injEq] at g1
  obtain ⟨rfl, rfl⟩ := g1
  have hcut : (kd.rows.drop off).take (kd.rows.length - off) = kd.rows.drop off := List.take_of_length_le (by simp)
  have hat : ∀ (j : Nat) (c : V), (kd.rows.drop off).flatten[j]? = some c → ∃ x, (o + off * kd.size + j < lim' B ∧ cellAt w B (o + off * kd.size + j) = some x) ∧ RepD lim' w c x := fun j c hc => by
   rw [← hcut] at hc
   obtain ⟨q1, _⟩ := flatten_cut kd.rows g4 off _ j c hc
   obtain ⟨x, x1, x2, _⟩ := g6 _ c q1
   obtain ⟨r, r1, r2⟩ := List.mem_flatten.1 (List.mem_of_getElem? q1)
   have e1 := (List.getElem?_eq_some_iff.1 q1).1
   rw [flatten_len _ g4] at e1
   have := hl B o h1
   refine ⟨x, ⟨by omega, ?_⟩, (dcell_data (hdata r r1 c r2) x2).mono fun B o v h1 h2 => ⟨Nat.lt_of_lt_of_le h1 (hle B), h2⟩⟩
   unfold cellAt World.cell?
   simp only [g3]
   simpa [Nat.add_assoc] using x1
  have := RepD.sl (lim := lim') (w := w) own kd.size (kd.rows.drop off) B (o + off * kd.size) cap (fun j => (cellAt w B (o + off * kd.size + j)).getD default) (by simpa using h3) (fun r hr => g4 r (List.mem_of_mem_drop hr))
   (fun j c hc => by obtain ⟨x, x1, x2⟩ := hat j c hc; rw [x1.2]; exact ⟨x1.1, rfl⟩) (fun j c hc => by obtain ⟨x, x1, x2⟩ := hat j c hc; rw [x1.2]; exact x2)
  rw [List.length_drop] at this
  exact this
 ·have : kd.rows.drop off = [] := List.drop_eq_nil_of_le (by omega)
  rw [this, hv]
  exact .slNil own kd.size (some B)
 ·have : kd.rows.drop off = [] := List.drop_eq_nil_of_le (by omega)
  rw [this, hv]
  exact .slNil own kd.size
theorem Gst.nest {G : Nat → Option (List V)} {st : St} {b d i j off : Nat} {k kd : Blk} {row : List V} (hbd : b ≠ d) (hb : st.b b = some k) (hzb : k.size < MAPS) (hd : st.b d = some kd) (hrow : k.rows[i]? = some row) (hoff : off ≤ kd.rows.length) (hcell : row[j]? = some (.ref d off (kd.rows.length - off)))
  (hdata : ∀ r, r ∈ kd.rows → ∀ c, c ∈ r → dcell c = true) :
  Gst G st ((st.setB b { k with rows := k.rows.set i (row.set j (.sl true kd.size (kd.rows.drop off))) }).delB d) := fun γ tmps w h => by
 let own' : Nat → Option Owner := fun B => match γ.own B with
  | some (.blk x) => if x = d then some (.nest b i j) else some (.blk x)
  | x => x
 let γ' : Gh := { loc := γ.loc, own := own', lim := fun B => match γ.loc d with | some (B0, o) => if B = B0 then max (γ.lim B) (o + kd.rows.length * kd.size) else γ.lim B | none => γ.lim B }
 have hown : ∀ B x, γ.own B = some x → x ≠ .blk d → own' B = some x := fun B x hx hne => by
  simp only [own', hx]
  cases x with
  | blk y => simp only; rw [if_neg (fun e => hne (by rw [e]))]
  | nest _ _ _ => rfl
 have hownd : ∀ B, γ.own B = some (.blk d) → own' B = some (.nest b i j) := fun B hB => by simp only [own', hB, if_true]
 have hlim : ∀ B, γ.lim B ≤ γ'.lim B ∧ (γ.own B ≠ some (.blk d) → γ'.lim B = γ.lim B) := fun B => by
  simp only [γ']
  rcases BlkOk.at (h.b d kd hd) with h0 | ⟨B0, o, a1, a2⟩
  ·rw [h0]; exact ⟨Nat.le_refl _, fun _ => rfl⟩
  ·rw [a1]
   simp only
   by_cases hB : B = B0
   ·subst hB; rw [if_pos rfl]; exact ⟨Nat.le_max_left _ _, fun hx => absurd a2 hx⟩
   ·rw [if_neg hB]; exact ⟨Nat.le_refl _, fun _ => rfl⟩
 have g : Grow γ w γ' w := ⟨rfl, rfl, rfl, Nat.le_refl _, fun _ _ _ _ h => h, fun B _ => (hlim B).1, fun B _ ho => ⟨rfl, by show own' B = none; simp only [own', ho], (hlim B).2 (by rw [ho]; simp)⟩, fun _ cs _ _ h => ⟨cs, h, rfl⟩⟩
 let k' : Blk := { k with rows := k.rows.set i (row.set j (.sl true kd.size (kd.rows.drop off))) }
 have bl : BsLe γ st.b st.u γ' ((st.setB b k').delB d).b ((st.setB b k').delB d).u := by
  refine ⟨fun x hx => ?_, fun x hx hn => ?_, fun x q hq => ⟨?_, ?_⟩⟩
  ·simp only [St.delB, St.setB]; split; rfl; split; rfl; exact hx
  ·simp only [St.delB, St.setB]
   split
   ·rfl
   ·split
    ·rename_i e; subst e; rw [hb] at hn; simp at hn
    ·exact hn
  ·simp only [St.delB, St.setB]; split; rfl; split; rfl; exact h.u x q hq
  ·by_cases hx : x = d
   ·exact .inl (by simp [St.delB, hx])
   ·by_cases hxb : x = b
    ·subst hxb
     rw [hb] at hq; simp only [Option.some.injEq] at hq; subst hq
     exact .inr ⟨k', by simp [St.delB, St.setB, hx], rfl, by simp [k'], rfl⟩
    ·exact .inr ⟨q, by simp [St.delB, St.setB, hx, hxb, hq], rfl, fun _ => rfl, rfl⟩
 refine ⟨γ', ⟨h.n, fun i => (h.t i).mono g bl, fun x q hq => ?_, fun x q hq => ?_, h.g.grow g, fun B x hx => ?_⟩, g, bl.pin⟩
 ·have hne : x ≠ d := fun e => by subst e; simp [St.delB] at hq
  have others : ∀ (B' : Nat) (q0 : Blk) (r : Nat), ∀ (c : V) (v : Value) (m : Nat), Right γ w (.nest x r m) c v → Right γ' w (.nest x r m) c v := fun _ _ r c v m hr =>
   (hr.mono fun B hB => ⟨hown B _ hB (by simp), by rw [(hlim B).2 (by rw [hB]; simp)]; exact Nat.le_refl _⟩)
  by_cases hxb : x = b
  ·subst hxb
   have hq' : q = k' := by simpa [St.delB, St.setB, hne] using hq.symm
   subst hq'
   rcases h.b x k hb with ⟨h0, hr0⟩ | hm | ⟨hM, B, o, cs, e, a1, a2, a3, a4, a5, a6, a7, a8⟩
   ·rw [hr0] at hrow; simp at hrow
   ·exact (hm.small hzb).elim
   have hj : j < row.length := (List.getElem?_eq_some_iff.1 hcell).1
   have hrl : row.length = k.size := a4 row (List.mem_of_getElem? hrow)
   have hl : γ'.lim B = γ.lim B := (hlim B).2 (by rw [a2]; simp [hne])
   have hlen : k'.rows.length = k.rows.length := by simp [k']
   refine .inr (.inr ⟨hM, B, o, cs, e, a1, hown B _ a2 (by simp [hne]), a3, fun r hr => ?_, by rw [hlen]; exact a5, fun idx c hc => ?_, fun hx => hl.trans (a7 hx), by rw [hl, hlen]; exact a8⟩)
   ·rcases List.mem_or_eq_of_mem_set hr with hr | rfl
    ·exact a4 r hr
    ·simpa using hrl
   ·obtain ⟨hpos, hc⟩ := flatten_set_get a4 hrow hj hc
    rcases hc with ⟨rfl, rfl⟩ | ⟨hne2, hc⟩
    ·
     have hold : k.rows.flatten[i * k.size + j]? = some (.ref d off (kd.rows.length - off)) := by rw [flatten_get k.rows a4 i j (by omega), hrow]; exact hcell
     obtain ⟨v, b1, b2, b3, _⟩ := a6 _ _ hold
     have hrep : RepD γ'.lim w (.sl true kd.size (kd.rows.drop off)) v := (h.b d kd hd).slData hdata (fun B => (hlim B).1) (fun B o hl => by simp only [γ', hl, if_true]; exact Nat.le_max_right _ _) hd hoff b2 true
     refine ⟨v, b1, .data hrep, b3, ?_⟩
     have e1 : (i * k.size + j) / k.size = i := by rw [Nat.mul_comm, Nat.mul_add_div hpos, Nat.div_eq_of_lt (by omega)]; rfl
     have e2 : (i * k.size + j) % k.size = j := by rw [Nat.mul_comm, Nat.mul_add_mod, Nat.mod_eq_of_lt (by omega)]
     show Right γ' w (.nest x ((i * k.size + j) / k.size) ((i * k.size + j) % k.size)) _ v
     rw [e1, e2]
     rcases b2.ref_inv hd with ⟨B1, o1, cap, rfl, c1, _, c3, c4, hMd, _⟩ | ⟨B1, rfl, c0, _⟩ | ⟨rfl, c0, _⟩
     ·rcases h.b d kd hd with ⟨z0, _⟩ | hm | ⟨_, B2, o2, cs2, e2', z1, z2, z3, _, _, _, _, z8⟩
      ·rw [c1] at z0; simp at z0
      ·exact (hm.small hMd).elim
      rw [c1] at z1; simp only [Option.some.injEq, Prod.mk.injEq] at z1
      obtain ⟨rfl, rfl⟩ := z1
      obtain ⟨cs3, e3, fz, y1, y2⟩ := c4
      rw [z3] at y1; simp only [Option.some.injEq, Obj.cells.injEq] at y1
      obtain ⟨rfl, rfl, rfl⟩ := y1
      refine .inr ⟨⟨hownd _ z2, ?_⟩, cs2, e2', z3, ?_⟩
      ·show (match γ.loc d with | some (B0, o) => if B1 = B0 then max (γ.lim B1) (o + kd.rows.length * kd.size) else γ.lim B1 | none => γ.lim B1) ≤ _
       rw [c1]
       simp only [if_true, List.length_drop]
       have : off * kd.size + (kd.rows.length - off) * kd.size = kd.rows.length * kd.size := by rw [← Nat.add_mul]; congr 1; omega
       omega
      ·show o1 + off * kd.size + cap * kd.size ≤ cs2.size
       rw [Nat.add_mul] at y2; omega
     ·exact .inl rfl
     ·trivial
    ·obtain ⟨v, b1, b2, b3, b4⟩ := a6 idx c hc
     exact ⟨v, b1, b2.mono g bl, b3, others 0 k _ _ _ _ b4⟩
  ·have hq' : st.b x = some q := by simpa [St.delB, St.setB, hne, hxb] using hq
   rcases h.b x q hq' with h0 | hm | ⟨hM, B, o, cs, e, a1, a2, a3, a4, a5, a6, a7, a8⟩
   ·exact .inl h0
   ·exact .inr (.inl (hm.same rfl (fun B _ hB => ⟨hown B _ hB (by simp [hne]), rfl⟩) fun c v hr => hr.mono g bl))
   have hl : γ'.lim B = γ.lim B := (hlim B).2 (by rw [a2]; simp [hne])
   refine .inr (.inr ⟨hM, B, o, cs, e, a1, hown B _ a2 (by simp [hne]), a3, a4, a5, fun i c hc => ?_, fun hx => hl.trans (a7 hx), by rw [hl]; exact a8⟩)
   obtain ⟨v, b1, b2, b3, b4⟩ := a6 i c hc
   exact ⟨v, b1, b2.mono g bl, b3, others 0 q _ _ _ _ b4⟩
 ·simp only [St.delB, St.setB] at hq ⊢
  split
  ·rfl
  ·rename_i hx
   split
   ·rfl
   ·rename_i hxb; rw [if_neg hx, if_neg hxb] at hq; exact h.u x q hq
 ·have hx' : own' B = some x := hx
  simp only [own'] at hx'
  cases ho : γ.own B with
  | none => rw [ho] at hx'; simp at hx'
  | some y => exact h.o B y ho
end Go.EV
namespace Go.EV
open Go
def takeSt (st : St) (b d i j : Nat) (k : Blk) (row : List V) (size : Nat) (rows : List (List V)) : St :=
 (st.setB b { k with rows := k.rows.set i (row.set j (.sl false size rows)) }).setB d ⟨size, false, rows.map (·.map V.strip)⟩
theorem Sim.take {G : Nat → Option (List V)} {γ : Gh} {st : St} {tmps : Array Value} {w : World} (h : Sim G γ st tmps w) {b d i j size : Nat} {k : Blk} {row : List V} {rows : List (List V)} (hu : st.u d = false) (hb : st.b b = some k)
  (hrow : k.rows[i]? = some row) (hcell : row[j]? = some (.sl true size rows)) {B o : Nat} (hl : γ.loc b = some (B, o)) (hzb : k.size < MAPS) (hzs : size < MAPS) :
  ∃ γ' v, cellAt w B (o + (i * k.size + j)) = some v ∧ Sim G γ' (takeSt st b d i j k row size rows) tmps w ∧ Grow γ w γ' w ∧
   (Pin γ st.b st.u γ' (takeSt st b d i j k row size rows).b (takeSt st b d i j k row size rows).u ∧ BsLe γ st.b st.u γ' (takeSt st b d i j k row size rows).b (takeSt st b d i j k row size rows).u) ∧ Rep γ' w (takeSt st b d i j k row size rows).b (takeSt st b d i j k row size rows).u (.ref d 0 rows.length) v := by
 have hbd : b ≠ d := fun e => by subst e; rw [h.u b k hb] at hu; simp at hu
 rcases h.b b k hb with ⟨h0, _⟩ | hm | ⟨hM, B', o', cs, e, a1, a2, a3, a4, a5, a6, a7, a8⟩
 ·rw [hl] at h0; simp at h0
 ·exact (hm.small hzb).elim
 rw [hl] at a1; simp only [Option.some.injEq, Prod.mk.injEq] at a1
 obtain ⟨rfl, rfl⟩ := a1
 have hj : j < row.length := (List.getElem?_eq_some_iff.1 hcell).1
 have hrl : row.length = k.size := a4 row (List.mem_of_getElem? hrow)
 have hpos : 0 < k.size := by omega
 obtain ⟨v, v1, v2, v3, v4⟩ := a6 (i * k.size + j) (.sl true size rows) (by rw [flatten_get k.rows a4 i j (by omega), hrow]; exact hcell)
 have e1 : (i * k.size + j) / k.size = i := by rw [Nat.mul_comm, Nat.mul_add_div hpos, Nat.div_eq_of_lt (by omega)]; rfl
 have e2 : (i * k.size + j) % k.size = j := by rw [Nat.mul_comm, Nat.mul_add_mod, Nat.mod_eq_of_lt (by omega)]
 rw [e1, e2] at v4
 let k' : Blk := { k with rows := k.rows.set i (row.set j (.sl false size rows)) }
 let kd : Blk := ⟨size, false, rows.map (·.map V.strip)⟩
 have hk'len : k'.rows.length = k.rows.length := by simp [k']

 have main : ∀ (γ' : Gh), (∀ c, c ≠ d → γ'.loc c = γ.loc c) → γ'.lim = γ.lim → (∀ X y, γ.own X = some y → y ≠ .nest b i j → γ'.own X = some y) → (∀ X, γ.own X = none → γ'.own X = none) → (∀ X y, γ'.own X = some y → X < w.heap.size) →
   (∀ bs u, BsLe γ st.b st.u γ' bs u → BlkOk γ' w bs u d kd) →
   (∀ bs u, bs d = some kd → Rep γ' w bs u (.ref d 0 rows.length) v) →
   ∃ γ' v, cellAt w B (o + (i * k.size + j)) = some v ∧ Sim G γ' (takeSt st b d i j k row size rows) tmps w ∧ Grow γ w γ' w ∧
    (Pin γ st.b st.u γ' (takeSt st b d i j k row size rows).b (takeSt st b d i j k row size rows).u ∧ BsLe γ st.b st.u γ' (takeSt st b d i j k row size rows).b (takeSt st b d i j k row size rows).u) ∧ Rep γ' w (takeSt st b d i j k row size rows).b (takeSt st b d i j k row size rows).u (.ref d 0 rows.length) v := by
  intro γ' f1 f2 f3 f4 f5 f6 f7
  have g : Grow γ w γ' w := ⟨rfl, rfl, rfl, Nat.le_refl _, fun _ _ _ _ h => h, fun X _ => by rw [f2]; exact Nat.le_refl _, fun X _ ho => ⟨rfl, f4 X ho, by rw [f2]⟩, fun _ cs _ _ h => ⟨cs, h, rfl⟩⟩
  have bl : BsLe γ st.b st.u γ' (takeSt st b d i j k row size rows).b (takeSt st b d i j k row size rows).u := by
   refine ⟨fun x hx => ?_, fun x hx hn => ?_, fun x q hq => ⟨?_, ?_⟩⟩
   ·simp only [takeSt, St.setB]; split; rfl; split; rfl; exact hx
   ·simp only [takeSt, St.setB]
    split
    ·rename_i e; subst e; rw [hu] at hx; simp at hx
    ·split
     ·rename_i e; subst e; rw [hb] at hn; simp at hn
     ·exact hn
   ·simp only [takeSt, St.setB]; split; rfl; split; rfl; exact h.u x q hq
   ·have hxd : x ≠ d := fun e => by subst e; rw [h.u x q hq] at hu; simp at hu
    by_cases hxb : x = b
    ·subst hxb
     rw [hb] at hq; simp only [Option.some.injEq] at hq; subst hq
     exact .inr ⟨k', by simp [takeSt, St.setB, hxd, k'], rfl, by omega, f1 x hxd⟩
    ·exact .inr ⟨q, by simp [takeSt, St.setB, hxd, hxb, hq], rfl, fun _ => rfl, f1 x hxd⟩
  have bd : (takeSt st b d i j k row size rows).b d = some kd := by simp [takeSt, St.setB, kd]
  have rights : ∀ (x p q : Nat) (c : V) (y : Value), (x, p, q) ≠ (b, i, j) → Right γ w (.nest x p q) c y → Right γ' w (.nest x p q) c y := fun x p q c y hne hr =>
   hr.mono fun X hX => ⟨f3 X _ hX (fun e => hne (by simp only [Owner.nest.injEq] at e; simp [e])), by rw [f2]; exact Nat.le_refl _⟩
  refine ⟨γ', v, ?_, ⟨h.n, fun i => (h.t i).mono g bl, fun x q hq => ?_, fun x q hq => ?_, h.g.grow g, f5⟩, g, ⟨bl.pin, bl⟩, f7 _ _ bd⟩
  ·unfold cellAt World.cell?
   simp only [a3]
   simpa using v1
  ·by_cases hxd : x = d
   ·subst hxd
    rw [bd] at hq; simp only [Option.some.injEq] at hq; subst hq
    exact f6 _ _ bl
   ·by_cases hxb : x = b
    ·subst hxb
     have hq' : q = k' := by simpa [takeSt, St.setB, hxd, k'] using hq.symm
     subst hq'
     refine .inr (.inr ⟨hM, B, o, cs, e, by rw [f1 x hxd]; exact hl, f3 B _ a2 (by simp), a3, fun r hr => ?_, by rw [hk'len]; exact a5, fun idx c hc => ?_, fun hx => by rw [f2]; exact a7 hx, by rw [f2, hk'len]; exact a8⟩)
     ·rcases List.mem_or_eq_of_mem_set hr with hr | rfl
      ·exact a4 r hr
      ·simpa using hrl
     ·obtain ⟨_, hc⟩ := flatten_set_get a4 hrow hj hc
      rcases hc with ⟨rfl, rfl⟩ | ⟨hne2, hc⟩
      ·exact ⟨v, v1, (v2.strip).mono g bl, v3, .of_not_own rfl⟩
      ·obtain ⟨y, b1, b2, b3, b4⟩ := a6 idx c hc
       refine ⟨y, b1, b2.mono g bl, b3, rights _ _ _ _ _ (fun e => hne2 ?_) b4⟩
       simp only [Prod.mk.injEq, true_and] at e
       have := Nat.div_add_mod idx k.size
       rw [e.1, e.2] at this
       rw [Nat.mul_comm i]; omega
    ·have hq' : st.b x = some q := by simpa [takeSt, St.setB, hxd, hxb] using hq
     rcases h.b x q hq' with ⟨z0, z1⟩ | hm | ⟨hM2, B2, o2, cs2, e2', c1, c2, c3, c4, c5, c6, c7, c8⟩
     ·exact .inl ⟨by rw [f1 x hxd]; exact z0, z1⟩
     ·exact .inr (.inl (hm.same (f1 x hxd) (fun B _ hB => ⟨f3 _ _ hB (by simp), rfl⟩) fun c v hr => hr.mono g bl))
     refine .inr (.inr ⟨hM2, B2, o2, cs2, e2', by rw [f1 x hxd]; exact c1, f3 _ _ c2 (by simp), c3, c4, c5, fun i c hc => ?_, fun hx => by rw [f2]; exact c7 hx, by rw [f2]; exact c8⟩)
     obtain ⟨y, b1, b2, b3, b4⟩ := c6 i c hc
     exact ⟨y, b1, b2.mono g bl, b3, rights _ _ _ _ _ (fun e => hxb (by simp only [Prod.mk.injEq] at e; exact e.1)) b4⟩
  ·simp only [takeSt, St.setB] at hq ⊢
   split
   ·rfl
   ·rename_i hx
    split
    ·rfl
    ·rename_i hxb; rw [if_neg hx, if_neg hxb] at hq; exact h.u x q hq

 have virt : rows = [] → (v = .slice none 0 0 ∨ ∃ B, v = .slice (some B) 0 0) → _ := fun hr hv => main { loc := fun c => if c = d then none else γ.loc c, own := γ.own, lim := γ.lim } (fun c hc => if_neg hc) rfl (fun _ _ h _ => h) (fun _ h => h) h.o
  (fun bs u _ => .inl ⟨by simp, by simp [kd, hr]⟩) (fun bs u hbs => by
   subst hr
   rcases hv with rfl | ⟨B1, rfl⟩
   ·exact .refN d 0 kd hbs hzs rfl
   ·exact .refE d 0 B1 kd hbs hzs rfl)
 rcases v2.sl_inv with ⟨a, rfl, hr⟩ | ⟨B1, o1, cap, vs, rfl, s1, s2, s3, s4⟩
 ·cases a with
  | none => exact virt hr (.inl rfl)
  | some a => exact virt hr (.inr ⟨a, rfl⟩)
 rcases v4 with rfl | ⟨⟨r1, r2⟩, cs1, e1', r3, r4⟩
 ·have : rows = [] := List.length_eq_zero_iff.1 (by omega)
  subst this
  exact virt rfl (.inr ⟨_, rfl⟩)
 simp only at r1 r2 r3 r4
 have hmul : rows.length * size ≤ cap * size := Nat.mul_le_mul_right _ s1
 have hrowsz : ∀ r, r ∈ rows.map (·.map V.strip) → r.length = size := fun r hr => by
  obtain ⟨q, hq, rfl⟩ := List.mem_map.1 hr
  simpa using s2 q hq
 refine main { loc := fun c => if c = d then some (B1, o1) else γ.loc c, own := fun X => if X = B1 then some (.blk d) else γ.own X, lim := γ.lim } (fun c hc => if_neg hc) rfl (fun X y hX hy => ?_) (fun X hX => ?_) (fun X y hX => ?_) (fun bs u bl => ?_) (fun bs u hbs => ?_)
 ·show (if X = B1 then some (.blk d) else γ.own X) = some y
  rw [if_neg (fun e => by subst e; rw [r1] at hX; simp only [Option.some.injEq] at hX; exact hy hX.symm)]; exact hX
 ·show (if X = B1 then some (.blk d) else γ.own X) = none
  rw [if_neg (fun e => by subst e; rw [r1] at hX; simp at hX)]; exact hX
 ·have hX' : (if X = B1 then some (.blk d) else γ.own X) = some y := hX
  split at hX'
  ·rename_i e; subst e; exact (Array.getElem?_eq_some_iff.1 r3).1
  ·exact h.o X y hX'
 ·refine .inr (.inr ⟨hzs, B1, o1, cs1, e1', by simp, by simp, r3, hrowsz, by simp only [kd, List.length_map]; omega, fun idx c hc => ?_, fun hx => by simp [kd] at hx, by simpa [kd] using r2⟩)
  simp only [kd, map_strip_flatten, List.getElem?_map, Option.map_eq_some_iff] at hc
  obtain ⟨c0, hc0, rfl⟩ := hc
  obtain ⟨t1, t2⟩ := s3 idx c0 hc0
  have t3 := s4 idx c0 hc0
  refine ⟨vs idx, ?_, ?_, t3.oneCell, .of_not_own (strip_own c0)⟩
  ·unfold cellAt World.cell? at t2
   simp only [r3] at t2
   simpa using t2
  ·have g : Grow γ w { loc := fun c => if c = d then some (B1, o1) else γ.loc c, own := fun X => if X = B1 then some (.blk d) else γ.own X, lim := γ.lim } w :=
    ⟨rfl, rfl, rfl, Nat.le_refl _, fun _ _ _ _ h => h, fun X _ => Nat.le_refl _, fun X _ ho => ⟨rfl, by show (if X = B1 then some (Owner.blk d) else γ.own X) = none; rw [if_neg (fun e => by subst e; rw [r1] at ho; simp at ho)]; exact ho, rfl⟩, fun _ cs _ _ h => ⟨cs, h, rfl⟩⟩
   exact (Rep.data (γ := γ) (bs := st.b) (u := st.u) t3).strip.mono g bl
 ·have := Rep.ref (γ := { loc := fun c => if c = d then some (B1, o1) else γ.loc c, own := fun X => if X = B1 then some (.blk d) else γ.own X, lim := γ.lim }) (w := w) (bs := bs) (u := u) d 0 rows.length B1 o1 cap kd hbs (by simp) (by simp [kd]) s1
   ⟨cs1, e1', _, r3, by simp only [kd, Nat.zero_add]; exact r4⟩ hzs (by simpa [kd] using s1)
  simpa [kd] using this
def takeRef (st : St) (b d i j : Nat) (k : Blk) (row : List V) (size : Nat) (rows : List (List V)) : St :=
 (st.setB b { k with rows := k.rows.set i (row.set j (.ref d 0 rows.length)) }).setB d ⟨size, false, rows.map (·.map V.strip)⟩
theorem Gst.take {G : Nat → Option (List V)} {st : St} {b d i j size : Nat} {k : Blk} {row : List V} {rows : List (List V)} (hu : st.u d = false) (hb : st.b b = some k) (hbd : b ≠ d)
  (hrow : k.rows[i]? = some row) (hcell : row[j]? = some (.sl true size rows)) (hzb : k.size < MAPS) (hzs : size < MAPS) : Gst G st (takeRef st b d i j k row size rows) := fun γ tmps w h => by
 rcases h.b b k hb with ⟨_, h0⟩ | hm | ⟨hM, B, o, cs, e, a1, a2, a3, a4, a5, a6, a7, a8⟩
 ·rw [h0] at hrow; simp at hrow
 ·exact (hm.small hzb).elim
 obtain ⟨γ', v, h1, h2, h3, h4, h5⟩ := h.take hu hb hrow hcell a1 hzb hzs
 have hj : j < row.length := (List.getElem?_eq_some_iff.1 hcell).1
 have hrl : row.length = k.size := a4 row (List.mem_of_getElem? hrow)
 have bl : BsLe γ' (takeSt st b d i j k row size rows).b (takeSt st b d i j k row size rows).u γ' (takeRef st b d i j k row size rows).b (takeRef st b d i j k row size rows).u := by
  refine ⟨fun x hx => hx, fun x _ hn => ?_, fun x q hq => ⟨h2.u x q hq, ?_⟩⟩
  ·simp only [takeSt, takeRef, St.setB] at hn ⊢
   split
   ·rename_i e; rw [if_pos e] at hn; simp at hn
   ·rename_i e
    rw [if_neg e] at hn
    split
    ·rename_i e2; rw [if_pos e2] at hn; simp at hn
    ·rename_i e2; rw [if_neg e2] at hn; exact hn
  ·by_cases hxd : x = d
   ·subst hxd
    have : q = ⟨size, false, rows.map (·.map V.strip)⟩ := by simpa [takeSt, St.setB] using hq.symm
    subst this
    exact .inr ⟨_, by simp [takeRef, St.setB], rfl, fun _ => rfl, rfl⟩
   ·by_cases hxb : x = b
    ·subst hxb
     have : q = { k with rows := k.rows.set i (row.set j (.sl false size rows)) } := by simpa [takeSt, St.setB, hxd] using hq.symm
     subst this
     exact .inr ⟨{ k with rows := k.rows.set i (row.set j (.ref d 0 rows.length)) }, by simp [takeRef, St.setB, hxd], rfl, by simp, rfl⟩
    ·exact .inr ⟨q, by simpa [takeSt, takeRef, St.setB, hxd, hxb] using hq, rfl, fun _ => rfl, rfl⟩
 refine ⟨γ', ⟨h2.n, fun q => (h2.t q).mono (.refl _ _) bl, fun x q hq => ?_, fun x q hq => ?_, h2.g, h2.o⟩, h3, h4.1.trans bl.pin⟩
 ·by_cases hxd : x = d
  ·subst hxd
   have hq' : (takeSt st b x i j k row size rows).b x = some q := by simpa [takeSt, takeRef, St.setB] using hq
   rcases h2.b x q hq' with z | hm | ⟨hM2, B2, o2, cs2, e2, c1, c2, c3, c4, c5, c6, c7, c8⟩
   ·exact .inl z
   ·exact .inr (.inl (hm.same rfl (fun B _ hB => ⟨hB, rfl⟩) fun c v hr => hr.mono (.refl _ _) bl))
   refine .inr (.inr ⟨hM2, B2, o2, cs2, e2, c1, c2, c3, c4, c5, fun n c hc => ?_, c7, c8⟩)
   obtain ⟨y, b1, b2, b3, b4⟩ := c6 n c hc
   exact ⟨y, b1, b2.mono (.refl _ _) bl, b3, b4⟩
  ·by_cases hxb : x = b
   ·subst hxb
    have hq' : q = { k with rows := k.rows.set i (row.set j (.ref d 0 rows.length)) } := by simpa [takeRef, St.setB, hxd] using hq.symm
    subst hq'
    have hk2 : (takeSt st x d i j k row size rows).b x = some { k with rows := k.rows.set i (row.set j (.sl false size rows)) } := by simp [takeSt, St.setB, hxd]
    rcases h2.b x _ hk2 with ⟨_, z⟩ | hm | ⟨hM2, B2, o2, cs2, e2, c1, c2, c3, c4, c5, c6, c7, c8⟩
    ·have hl : i < k.rows.length := (List.getElem?_eq_some_iff.1 hrow).1
     have := congrArg List.length z
     simp at this
     rw [this] at hl; simp at hl
    ·exact (hm.small hzb).elim
    refine .inr (.inr ⟨hM2, B2, o2, cs2, e2, c1, c2, c3, fun r hr => ?_, by simpa using c5, fun n c hc => ?_, c7, by simpa using c8⟩)
    ·rcases List.mem_or_eq_of_mem_set hr with hr | rfl
     ·exact a4 r hr
     ·simpa using hrl
    ·obtain ⟨_, hc'⟩ := flatten_set_get a4 hrow hj hc
     rcases hc' with ⟨rfl, rfl⟩ | ⟨hne, hc'⟩
     ·have hc2 : (k.rows.set i (row.set j (.sl false size rows))).flatten[i * k.size + j]? = some (.sl false size rows) := by
       have hz : ∀ r, r ∈ k.rows.set i (row.set j (.sl false size rows)) → r.length = k.size := fun r hr => by
        rcases List.mem_or_eq_of_mem_set hr with hr | rfl
        ·exact a4 r hr
        ·simpa using hrl
       have hl : i < k.rows.length := (List.getElem?_eq_some_iff.1 hrow).1
       rw [flatten_get _ hz i j (by omega), List.getElem?_set_self hl]
       simp [hj]
      obtain ⟨y, b1, b2, b3, b4⟩ := c6 _ _ hc2
      have hy : y = v := by
       have e1 : cellAt w B2 (o2 + (i * k.size + j)) = some y := by
        unfold cellAt World.cell?
        simp only [c3]
        simpa using b1
       have hloc : γ'.loc x = some (B, o) := by
        rcases h4.2.kept x k hb with ⟨_, z | ⟨_, _, _, _, z⟩⟩
        ·rw [hk2] at z; simp at z
        ·rw [z]; exact a1
       rw [hloc] at c1
       simp only [Option.some.injEq, Prod.mk.injEq] at c1
       obtain ⟨rfl, rfl⟩ := c1
       rw [h1] at e1
       simpa using e1.symm
      subst hy
      exact ⟨y, b1, h5.mono (.refl _ _) bl, b3, .of_not_own rfl⟩
     ·have hc2 : (k.rows.set i (row.set j (.sl false size rows))).flatten[n]? = some c := by
       have hz : ∀ r, r ∈ k.rows.set i (row.set j (.sl false size rows)) → r.length = k.size := fun r hr => by
        rcases List.mem_or_eq_of_mem_set hr with hr | rfl
        ·exact a4 r hr
        ·simpa using hrl
       have hpos : 0 < k.size := by omega
       have en : n = (n / k.size) * k.size + n % k.size := by rw [Nat.mul_comm]; exact (Nat.div_add_mod n k.size).symm
       have hm := Nat.mod_lt n hpos
       rw [en, flatten_get _ a4 _ _ hm] at hc'
       rw [en, flatten_get _ hz _ _ hm]
       by_cases hi : i = n / k.size
       ·subst hi
        have hl : n / k.size < k.rows.length := (List.getElem?_eq_some_iff.1 hrow).1
        rw [List.getElem?_set_self hl]
        rw [hrow] at hc'
        simp only [Option.bind_some] at hc' ⊢
        have hjm : j ≠ n % k.size := fun e => hne (by rw [e]; exact en)
        rw [List.getElem?_set_ne hjm]; exact hc'
       ·rw [List.getElem?_set_ne hi]; exact hc'
      obtain ⟨y, b1, b2, b3, b4⟩ := c6 _ _ hc2
      exact ⟨y, b1, b2.mono (.refl _ _) bl, b3, b4⟩
   ·have hq' : (takeSt st b d i j k row size rows).b x = some q := by simpa [takeSt, takeRef, St.setB, hxd, hxb] using hq
    rcases h2.b x q hq' with z | hm | ⟨hM2, B2, o2, cs2, e2, c1, c2, c3, c4, c5, c6, c7, c8⟩
    ·exact .inl z
    ·exact .inr (.inl (hm.same rfl (fun B _ hB => ⟨hB, rfl⟩) fun c v hr => hr.mono (.refl _ _) bl))
    refine .inr (.inr ⟨hM2, B2, o2, cs2, e2, c1, c2, c3, c4, c5, fun n c hc => ?_, c7, c8⟩)
    obtain ⟨y, b1, b2, b3, b4⟩ := c6 n c hc
    exact ⟨y, b1, b2.mono (.refl _ _) bl, b3, b4⟩
 ·simp only [takeRef, St.setB] at hq ⊢
  split
  ·rfl
  ·rename_i e1
   split
   ·rfl
   ·rename_i e2
    rw [if_neg e1, if_neg e2] at hq
    exact h.u x q hq
def isAggT (P : Program) (t : TypeId) : Bool := match P.underlying t with
 | some (.struct _) => true
 | some (.array _ _) => true
 | some _ => false
 | none => true
theorem effO_take {P : Program} {G : Nat → Option (List V)} {o : Oper} {st : St} {t : TypeId} {x : Operand} {b d dst i j size : Nat} {k : Blk} {row : List V} {rows : List (List V)} (ho : o.op = .load t x) (hd : o.dst = some dst) (hdn : dst < st.n) (ht : isAggT P t = false)
  (hx : Evs G st x (.ptr b i j)) (hu : st.u d = false) (hb : st.b b = some k) (hrow : k.rows[i]? = some row) (hcell : row[j]? = some (.sl true size rows)) (hzs : size < MAPS) :
  EffO P G o st ((takeSt st b d i j k row size rows).setT dst (.ref d 0 rows.length)) :=
 effO_value fun γ a w hs => by
  obtain ⟨B, o', hv, hl⟩ := (hx γ a w hs).ptr_inv hb
  obtain ⟨γ', v, h1, h2, h3, h4, h5⟩ := hs.take hu hb hrow hcell hl ((hx γ a w hs).ptr_small hb) hzs
  refine ⟨v, w, γ', ?_, h3, ?_, ?_⟩
  ·have h1' : w.cell? ⟨B, o' + (i * k.size + j), none⟩ = some v := h1
   have : (loadVar t ⟨B, o' + (i * k.size + j), none⟩).run P w = .ok v w := by
    unfold isAggT at ht
    cases hu' : P.underlying t with
    | none => rw [hu'] at ht; simp at ht
    | some dd => cases dd <;> rw [hu'] at ht <;> simp at ht <;> simp [loadVar, run_isAgg_of hu', h1']
   simp [execOp, ho, Instr.loadAt, hv, Instr.sureAddr, this]
  ·exact h4.1
  ·have := h2.put (a := a) (dst := o.dst) (c := .ref d 0 rows.length) (v := v) (by rw [hd]; show decide (dst < st.n) = true; simpa using hdn) h5
   rw [hd] at this ⊢
   exact this
theorem effO_takeAgg {P : Program} {G : Nat → Option (List V)} {o : Oper} {st : St} {t : TypeId} {x : Operand} {b d dst i off j size : Nat} {k : Blk} {row : List V} {rows : List (List V)} {ti : TypeInfo} (ho : o.op = .load t x) (hd : o.dst = some dst) (hdn : dst < st.n)
  (hti : P.info? t = some ti) (hag : isAggT P t = true) (hund : (P.underlying t).isSome = true)
  (hx : Evs G st x (.ptr b i off)) (hu : st.u d = false) (hb : st.b b = some k) (hrow : k.rows[i]? = some row) (hcell : row[j]? = some (.sl true size rows)) (hsz : off + ti.size ≤ row.length) (hj1 : off ≤ j) (hzs : size < MAPS) :
  EffO P G o st ((takeSt st b d i j k row size rows).setT dst (.agg (((row.set j (.ref d 0 rows.length)).drop off).take ti.size))) :=
 effO_value fun γ a w hs => by
  obtain ⟨B, o', hv, hl⟩ := (hx γ a w hs).ptr_inv hb
  obtain ⟨γ', v, h1, h2, h3, h4, h5⟩ := hs.take hu hb hrow hcell hl ((hx γ a w hs).ptr_small hb) hzs
  have hbd : b ≠ d := fun e => by subst e; rw [hs.u b k hb] at hu; simp at hu
  have hb' : (takeSt st b d i j k row size rows).b b = some { k with rows := k.rows.set i (row.set j (.sl false size rows)) } := by simp [takeSt, St.setB, hbd]
  have hl' : γ'.loc b = some (B, o') := by
   rcases (h4.2.kept b k hb).2 with hn | ⟨k2, hk2, _, _, hloc⟩
   ·rw [hb'] at hn; simp at hn
   ·rw [hloc]; exact hl
  have hi : i < k.rows.length := (List.getElem?_eq_some_iff.1 hrow).1
  have hat := (h2.b b _ hb').row hl' (i := i) (r := row.set j (.sl false size rows)) (by simp [hi]) (show k.size < MAPS from (hx γ a w hs).ptr_small hb)
  have hat2 : CellsAt γ' w (takeSt st b d i j k row size rows).b (takeSt st b d i j k row size rows).u B (o' + i * k.size) (row.set j (.ref d 0 rows.length)) := fun q c hc => by
   by_cases hq : q = j
   ·subst hq
    have hjl : q < row.length := (List.getElem?_eq_some_iff.1 hcell).1
    rw [List.getElem?_set_self hjl] at hc
    simp only [Option.some.injEq] at hc
    subst hc
    exact ⟨v, by rw [Nat.add_assoc]; exact h1, h5⟩
   ·rw [List.getElem?_set_ne (fun e => hq e.symm)] at hc
    exact hat q c (by rw [List.getElem?_set_ne (fun e => hq e.symm)]; exact hc)
  have hat3 := hat2.drop off
  obtain ⟨vs, hrun, hrep⟩ := run_loadAgg (P := P) hat3 (n := ti.size) (by simp; omega)
  refine ⟨.agg vs, w, γ', ?_, h3, h4.1, ?_⟩
  ·have e : o' + i * k.size + off = o' + (i * k.size + off) := by omega
   rw [e] at hrun
   have : (loadVar t ⟨B, o' + (i * k.size + off), none⟩).run P w = .ok (.agg vs) w := by
    cases hu' : P.underlying t with
    | none => rw [hu'] at hund; simp at hund
    | some dd =>
     unfold isAggT at hag
     cases dd <;> rw [hu'] at hag <;> simp at hag <;> simp [loadVar, run_isAgg_of hu', sizeOf, typeInfo, hti, hrun]
   simp [execOp, ho, Instr.loadAt, hv, Instr.sureAddr, this]
  ·have := h2.put (a := a) (dst := o.dst) (c := .agg (((row.set j (.ref d 0 rows.length)).drop off).take ti.size)) (v := .agg vs) (by rw [hd]; show decide (dst < st.n) = true; simpa using hdn) hrep
   rw [hd] at this ⊢
   exact this
end Go.EV
