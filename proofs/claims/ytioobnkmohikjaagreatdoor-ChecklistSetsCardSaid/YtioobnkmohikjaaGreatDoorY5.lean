/- Guided execution: calls whose arguments are seen as data; a region by its guide; no conditions.
   Guided execution: the state behind a region; the executor is right; no conditions.
   Guided execution: the steps that change only how a state is told are right; no conditions.
   Guided execution: the executor is right: if what is found is what the guide says, the function's body comes to what the guide is worth; no conditions but that the program follows Go's mixed orders.
   The value-level logic: the world turned in a place where no cells lie (a loop's record, a block for deferred calls); no conditions.
   Guided execution: the executor is right, ended; a function's contract from its guide; no conditions but that the program follows Go's mixed orders.
   Guided execution: short names used by printed guides; no conditions.
   What a guide is worth, by rules: 'Ok g Q' says that the guide comes to a result of which Q holds. No conditions. -/
import Derived.Test.YtioobnkmohikjaaGreatDoorY4
import Derived.Test.YtioobnkmohikjaaGreatDoorY2
import Derived.RangeFuncRecord
import Derived.KernelRfl
namespace Go.EV
open Go
theorem mapO_sub {α β : Type} {f g : α → Option β} : ∀ {l : List α} {r : List β}, mapO f l = some r → (∀ x, x ∈ l → ∀ y, f x = some y → g x = some y) → mapO g l = some r
 | [], r, h, _ => h
 | x :: l, r, h, hg => by
  simp only [mapO] at h ⊢
  split at h
  ·rename_i y r' h1 h2
   rw [hg x (by simp) y h1, mapO_sub h2 fun z hz => hg z (by simp [hz])]; exact h
  ·simp at h
theorem viewV_dcell {look : Nat → Option Blk} {c : V} (h : dcell c = true) (n : Nat) : viewV look (n + 1) c = viewV look 1 c := by
 cases c <;> simp_all [dcell, viewV]
 obtain ⟨rfl, rfl⟩ := h
 simp [mapO]
theorem Ty.view {α : Type} (ty : Ty α) (look : Nat → Option Blk) (n : Nat) (x : α) : mapO (fun v => onlyCell (viewV look (n + 1) v)) (ty.c x) = some (ty.d x) :=
 mapO_sub (ty.vw look x) fun c hc y hy => by
  rw [viewV_dcell (List.all_eq_true.1 (ty.cd x) c hc)]; exact hy
theorem Ty.views {α : Type} (ty : Ty α) (look : Nat → Option Blk) (n : Nat) : ∀ l : List α, mapO (mapO fun v => onlyCell (viewV look (n + 1) v)) (l.map ty.c) = some (l.map ty.d)
 | [] => rfl
 | x :: l => by simp only [List.map_cons, mapO, ty.view look n x, ty.views look n l]
theorem viewE_rows {look : Nat → Option Blk} {vs : List VwW} : ∀ (n : Nat) (c : V) (e : Nat × List (List V) × Nat), e ∈ viewE look vs n c → ∃ k, look e.1 = some k ∧ e.2.1 = k.rows
 | 0, _, _, h => by simp [viewE] at h
 | n + 1, c, e, h => by
  have fl : ∀ l : List V, e ∈ l.flatMap (viewE look vs n) → ∃ k, look e.1 = some k ∧ e.2.1 = k.rows := fun l hl => by
   obtain ⟨x, _, hx⟩ := List.mem_flatMap.1 hl
   exact viewE_rows n x e hx
  cases c <;> simp only [viewE, List.not_mem_nil] at h
  case ref b off len =>
   split at h
   ·split at h
    ·rename_i k hk
     simp only [List.mem_singleton] at h
     subst h; exact ⟨k, hk, rfl⟩
    ·simp at h
   ·simp at h
  case ptr b i off =>
   split at h
   ·split at h
    ·exact fl _ h
    ·simp at h
   ·simp at h
  case fn f a c =>
   rcases List.mem_append.1 h with h | h
   ·exact fl _ h
   ·exact fl _ h
  case agg l => exact fl _ h
  case tup l => exact fl _ h
def VOk (vs : List VwW) (es : List (Nat × List (List V) × Nat)) : Prop :=
 ∀ e, e ∈ es → ∀ v, vs.find? (fun v => v.b == e.1) = some v → e.2.1.take e.2.2 = v.l.map v.ty.c
theorem viewG_spec {look : Nat → Option Blk} {vs : List VwW} : ∀ (n : Nat) (c d : V), viewG look vs n c = some d → VOk vs (viewE look vs n c) → viewV look n c = some d
 | 0, _, _, h, _ => by simp [viewG] at h
 | n + 1, c, d, h, hv => by
  have ih := viewG_spec (look := look) (vs := vs) n
  have sub : ∀ (l : List V) (r : List V), mapO (viewG look vs n) l = some r → VOk vs (l.flatMap (viewE look vs n)) → mapO (viewV look n) l = some r := fun l r hm hl =>
   mapO_sub hm fun x hx y hy => ih x y hy fun e he => hl e (List.mem_flatMap.2 ⟨x, hx, he⟩)
  cases c <;> simp only [viewG] at h <;> try exact h
  case ref b off len =>
   split at h
   ·rename_i v hf
    split at h
    ·split at h
     ·simp at h
     ·rename_i n0
      obtain ⟨k, hk, rfl⟩ := Option.map_eq_some_iff.1 h
      have := hv (b, k.rows, len) (by simp only [viewE, hf, hk]; simp)
      have e : (k.rows.drop 0).take len = v.l.map v.ty.c := by rw [List.drop_zero]; exact this v hf
      simp only [viewV, hk]
      rw [e, v.ty.views]
      rfl
    ·simp at h
   ·exact h
  case ptr b i off =>
   split at h
   ·rename_i k hk
    split at h
    ·rename_i r hr
     obtain ⟨l, h1, rfl⟩ := Option.map_eq_some_iff.1 h
     simp only [viewE, hk, hr] at hv
     simp only [viewV, hk, hr]
     rw [mapO_sub h1 fun x hx y hy => ?_]
     ·rfl
     ·obtain ⟨a1, a2⟩ := onlyCell_some hy
      have := ih x y a1 fun e he => hv e (List.mem_flatMap.2 ⟨x, hx, he⟩)
      unfold onlyCell; rw [this]; simp [a2]
    ·simp at h
   ·simp at h
  case fn f a c =>
   split at h
   ·rename_i a' c' h1 h2
    simp only [viewE] at hv
    simp only [viewV]
    rw [sub a a' h1 fun e he => hv e (List.mem_append_left _ he), sub c c' h2 fun e he => hv e (List.mem_append_right _ he)]
    exact h
   ·simp at h
  case agg l =>
   obtain ⟨r, h1, rfl⟩ := Option.map_eq_some_iff.1 h
   simp only [viewV]
   rw [sub l r h1 hv]; rfl
  case tup l =>
   obtain ⟨r, h1, rfl⟩ := Option.map_eq_some_iff.1 h
   simp only [viewV]
   rw [sub l r h1 hv]; rfl
theorem vOk_of {look : Nat → Option Blk} {vs : List VwW} {n : Nat} {cs : List V} (hw : vsOk vs = true) (h : cs.flatMap (viewE look vs n) = vs.map VwW.eqn) : VOk vs (cs.flatMap (viewE look vs n)) := by
 have rows : ∀ e, e ∈ cs.flatMap (viewE look vs n) → ∃ k, look e.1 = some k ∧ e.2.1 = k.rows := fun e he => by
  obtain ⟨x, _, hx⟩ := List.mem_flatMap.1 he
  exact viewE_rows n x e hx
 intro e he v hv
 obtain ⟨k, k1, k2⟩ := rows e he
 have hm := List.mem_of_find?_eq_some hv
 have hb : v.b = e.1 := by simpa using List.find?_some hv
 have : v.eqn ∈ cs.flatMap (viewE look vs n) := by rw [h]; exact List.mem_map.2 ⟨v, hm, rfl⟩
 obtain ⟨k', k3, k4⟩ := rows _ this
 simp only [VwW.eqn] at k3 k4
 rw [hb, k1] at k3
 simp only [Option.some.injEq] at k3
 subst k3
 obtain ⟨v', hm', he'⟩ := List.mem_map.1 (h ▸ he)
 subst he'
 simp only [VwW.eqn] at k1 k2 hb ⊢
 have one : ∀ x, x ∈ vs → ∀ y, y ∈ vs → y.b = x.b → x.w = false → x = y := fun x hx y hy hxy hw0 => by
  have := List.all_eq_true.1 hw x hx
  rw [hw0] at this
  simp only [Bool.false_or, beq_iff_eq] at this
  obtain ⟨z, hz⟩ := List.length_eq_one_iff.1 this
  have hx' : x ∈ vs.filter fun q => q.b == x.b := List.mem_filter.2 ⟨hx, by simp⟩
  have hy' : y ∈ vs.filter fun q => q.b == x.b := List.mem_filter.2 ⟨hy, by simpa using hxy⟩
  rw [hz] at hx' hy'
  rw [List.mem_singleton.1 hx', List.mem_singleton.1 hy']
 cases hwv : v.w with
 | false => rw [← one v hm v' hm' hb.symm hwv]; exact v.h
 | true =>
  cases hwv' : v'.w with
  | false => rw [one v' hm' v hm hb hwv']; exact v.h
  | true => rw [v'.hw hwv', show v'.rows.length = v.n by rw [v.hw hwv, k2, k4], k2, ← k4]; exact v.h
section
variable {P : Program} {G : Nat → Option (List V)} {ops : Array Oper} {i : Nat} {s : St}
theorem viewOp_spec {ex : List Nat} {vs : List VwW} {dst : Option Nat} {f : FuncId} {ds : List V} {es : List (Nat × List (List V) × Nat)} {r : V} (h : viewOp P G ops ex vs i s = some (dst, f, ds, es)) (he : es = vs.map VwW.eqn)
  (hc : PureC P G f ds r) (hr : flatB r = true) : StepL P G ops i s (opR ops i s ex) (dstW dst r) := by
 unfold viewOp at h
 split at h
 ·rename_i o f' cs hca
  split at h
  rotate_left
  ·simp at h
  rename_i hw
  obtain ⟨ds', hm, h2⟩ := Option.map_eq_some_iff.1 h
  simp only [Prod.mk.injEq] at h2
  obtain ⟨rfl, rfl, rfl, rfl⟩ := h2
  have hv := vOk_of hw he
  refine told_view 8 ?_ hc hr
  simp only [viewAt, hca]
  rw [mapO_sub hm fun x hx y hy => viewG_spec 8 x y hy fun e he => hv e (List.mem_flatMap.2 ⟨x, hx, he⟩)]
  rfl
 ·simp at h
end
def PSteps (P : Program) (G : Nat → Option (List V)) (ops : Array Oper) (p : Plan) (st0 s : St) : Prop :=
 s = along p st0 p.length ∧ ∀ j, j < p.length → StepL P G ops j (along p st0 j) (p.rs j) (p.ws j)
theorem along_append (p : Plan) (x : List Loc × List Wr) (st : St) : ∀ n, n ≤ p.length → along (p ++ [x]) st n = along p st n
 | 0, _ => rfl
 | n + 1, h => by
  simp only [along]
  rw [along_append p x st n (by omega)]
  congr 1
  unfold Plan.ws
  rw [List.getD_eq_getElem?_getD, List.getD_eq_getElem?_getD, List.getElem?_append_left (by omega)]
theorem PSteps.push {P : Program} {G : Nat → Option (List V)} {ops : Array Oper} {p : Plan} {st0 s : St} (h : PSteps P G ops p st0 s) {R : List Loc} {ws : List Wr} (hs : StepL P G ops p.length s R ws) : PSteps P G ops (p ++ [(R, ws)]) st0 (s.app ws) := by
 obtain ⟨h1, h2⟩ := h
 have e : (p ++ [(R, ws)]).getD p.length ([], []) = (R, ws) := by rw [List.getD_eq_getElem?_getD]; simp
 refine ⟨?_, fun j hj => ?_⟩
 ·rw [List.length_append]
  show _ = (along (p ++ [(R, ws)]) st0 p.length).app _
  rw [along_append _ _ _ _ (Nat.le_refl _), ← h1]
  unfold Plan.ws; rw [e]
 ·simp only [List.length_append, List.length_singleton] at hj
  rw [along_append _ _ _ _ (by omega)]
  by_cases hjl : j < p.length
  ·have e2 : (p ++ [(R, ws)]).getD j ([], []) = p.getD j ([], []) := by
    rw [List.getD_eq_getElem?_getD, List.getD_eq_getElem?_getD, List.getElem?_append_left hjl]
   unfold Plan.rs Plan.ws
   rw [e2]
   exact h2 j hjl
  ·have : j = p.length := by omega
   subst this
   unfold Plan.rs Plan.ws
   rw [e, ← h1]; exact hs
theorem app_b_other {ws : List Wr} {s : St} {b : Nat} (h : ¬ b ∈ wrBs ws) : (s.app ws).b b = s.b b :=
 (app_other (l := .b b) ws s fun x hx e => h (by
  unfold wrBs
  refine List.mem_filterMap.2 ⟨x, hx, ?_⟩
  cases x with
  | t i c => simp [Wr.loc] at e
  | b i k => simp only [Wr.loc, Loc.b.injEq] at e; subst e; rfl)).1
theorem app_t_other {ws : List Wr} {s : St} {t : Nat} (h : ¬ t ∈ wrTs ws) : (s.app ws).t t = s.t t :=
 app_other (l := .t t) ws s fun x hx e => h (by
  unfold wrTs
  refine List.mem_filterMap.2 ⟨x, hx, ?_⟩
  cases x with
  | b i c => simp [Wr.loc] at e
  | t i k => simp only [Wr.loc, Loc.t.injEq] at e; subst e; rfl)
theorem app_append (a b : List Wr) (s : St) : s.app (a ++ b) = (s.app a).app b := by unfold St.app; rw [List.foldl_append]
theorem app_snoc (ws : List Wr) (x : Wr) (s : St) : s.app (ws ++ [x]) = (s.app ws).wr x := by
 unfold St.app; rw [List.foldl_append]; rfl
theorem app_b_mem {s : St} {b : Nat} {k : Blk} : ∀ (n : Nat) (ws : List Wr), ws.length = n → (s.app ws).b b = some k → b ∈ wrBs ws → Wr.b b (some k) ∈ ws
 | 0, ws, hn, _, hm => by rw [List.length_eq_zero_iff.1 hn] at hm; simp [wrBs] at hm
 | n + 1, ws, hn, h, hm => by
  obtain ⟨ws', x, rfl⟩ : ∃ ws' x, ws = ws' ++ [x] := ⟨ws.dropLast, ws.getLast (by intro e; rw [e] at hn; simp at hn), (List.dropLast_concat_getLast _).symm⟩
  rw [app_snoc] at h
  have hl : ws'.length = n := by simpa using hn
  cases x with
  | t i c =>
   have hm' : b ∈ wrBs ws' := by
    unfold wrBs at hm ⊢
    rw [List.filterMap_append] at hm
    simpa using hm
   exact List.mem_append_left _ (app_b_mem n ws' hl h hm')
  | b i q =>
   by_cases hi : b = i
   ·subst hi
    cases q with
    | none => simp [St.wr, St.delB] at h
    | some q =>
     simp only [St.wr, St.setB, if_true, Option.some.injEq] at h
     subst h; simp
   ·have h' : (s.app ws').b b = some k := by
     cases q with
     | none => simpa [St.wr, St.delB, hi] using h
     | some q => simpa [St.wr, St.setB, hi] using h
    have hm' : b ∈ wrBs ws' := by
     unfold wrBs at hm ⊢
     rw [List.filterMap_append] at hm
     simpa [hi] using hm
    exact List.mem_append_left _ (app_b_mem n ws' hl h' hm')
theorem SyOk.step {sy : List Nat} {s : St} (h : SyOk sy s) {ws : List Wr} {told : List Nat} (ht : ∀ i k, Wr.b i (some k) ∈ ws → i ∈ told → DataRows k.rows) : SyOk (syStep sy ws told) (s.app ws) := by
 intro b hb k hk
 unfold syStep at hb
 rcases List.mem_append.1 hb with hb | hb
 ·obtain ⟨h1, h2⟩ := List.mem_filter.1 hb
  exact ht b k (app_b_mem _ ws rfl hk (by simpa using h2)) h1
 ·obtain ⟨h1, h2⟩ := List.mem_filter.1 hb
  rw [app_b_other (by simpa using h2)] at hk
  exact h b h1 k hk
theorem CallC.coe {P : Program} {G : Nat → Option (List V)} {f : FuncId} {es as : List V} {ins outs : Nat → Option Blk} {res : V} (h : CallC P G f (coeL (coeV 8) es as) ins res outs) : CallC P G f as ins res outs := fun γ w vs hg ho ha hb =>
 h γ w vs hg ho ⟨by rw [coeL_len]; exact ha.1, fun i c v hc hv => by
  obtain ⟨c', k1, k2⟩ := coeL_get _ _ _ _ _ hc
  rcases k2 with rfl | ⟨e, rfl⟩
  ·exact ha.2 i _ v k1 hv
  ·exact coeV_rep 8 e c' v (ha.2 i c' v k1 hv)⟩ hb
section
variable {P : Program} {G : Nat → Option (List V)} {id : Nat} {ops : Array Oper}
def Goes (P : Program) (G : Nat → Option (List V)) (ops : Array Oper) {ρ : Type} (F : Fin' ρ) (r : ρ) (st0 : St) (n : Nat) (next : T P G ρ → St → Plan → List Nat → C) : Prop :=
 ∃ g' s' p' sy', next g' s' p' sy' = g'.expect F ∧ g'.run = some r ∧ PSteps P G ops p' st0 s' ∧ SyOk sy' s' ∧ p'.length = n
theorem reK_sound {ρ : Type} {F : Fin' ρ} {a : Nat} {k : T P G ρ} {R : List Loc} {ws : List Wr} {s st0 : St} {p : Plan} {sy : List Nat} {next : T P G ρ → St → Plan → List Nat → C} {r : ρ}
  (h : reK P G a k R ws s p sy next = k.expect F) (hr : k.run = some r) (hp : PSteps P G ops p st0 s) (hsy : SyOk sy s) (hs : StepL P G ops p.length s R ws) :
  ∃ g' sy' p', next g' (s.app ws) p' sy' = g'.expect F ∧ g'.run = some r ∧ PSteps P G ops p' st0 (s.app ws) ∧ SyOk sy' (s.app ws) ∧ p'.length = p.length + 1 := by
 have plain : next k (s.app ws) (p ++ [(R, ws)]) (syStep sy ws []) = k.expect F → ∃ g' sy' p', next g' (s.app ws) p' sy' = g'.expect F ∧ g'.run = some r ∧ PSteps P G ops p' st0 (s.app ws) ∧ SyOk sy' (s.app ws) ∧ p'.length = p.length + 1 :=
  fun h => ⟨k, _, _, h, hr, hp.push hs, hsy.step (fun _ _ _ h => by simp at h), by simp⟩
 cases k <;> try exact plain h
 case re a' w k' =>
  simp only [reK] at h
  split at h
  ·simp only [T.expect, C.re.injEq] at h
   obtain ⟨h1, h2⟩ := h
   have e : ws = w.b := h1.trans w.h
   rw [e]
   exact ⟨k', _, _, h2, hr, hp.push (e ▸ hs), hsy.step w.dat, by simp⟩
  ·exact plain h
theorem dflt_sound {ρ : Type} {F : Fin' ρ} {g : T P G ρ} {s st0 : St} {p : Plan} {sy : List Nat} {next : T P G ρ → St → Plan → List Nat → C} {r : ρ} (hns : ∀ j, C.stuck j ≠ g.expect F)
  (h : dflt P G ops p.length g s p sy next = g.expect F) (hr : g.run = some r) (hp : PSteps P G ops p st0 s) (hsy : SyOk sy s) : Goes P G ops F r st0 (p.length + 1) next := by
 unfold dflt at h
 split at h
 ·rename_i R ws hrw
  exact ⟨g, _, _, _, h, hr, hp.push (stepRW_spec hrw), hsy.step (fun _ _ _ h => by simp at h), by simp⟩
 ·exact absurd h (hns _)
theorem expect_ns {ρ : Type} (F : Fin' ρ) (g : T P G ρ) (j : Nat) : C.stuck j ≠ g.expect F := by
 induction g with
 | done r =>
  cases F with
  | rnd S E => cases r <;> simp [T.expect, extFin]
  | _ => simp [T.expect, extFin]
 | tt k ih => simpa [T.expect] using ih F
 | ff k ih => simpa [T.expect] using ih F
 | lp S body x => cases F <;> simp [T.expect]
 | ceq a n vs k => cases vs <;> simp [T.expect]
 | nst a ty l hole j col y ty2 o cut k => cases cut <;> simp [T.expect]
 | _ => simp [T.expect]
theorem call_case {ρ : Type} {F : Fin' ρ} {a : Nat} {k : T P G ρ} {s st0 : St} {p : Plan} {sy : List Nat} {next : T P G ρ → St → Plan → List Nat → C} {r : ρ} {Li Lo : List (Nat × Nat)} {dst : Option Nat} {f : FuncId} {as : List V} {ins : List (Nat × Blk)}
  {O : List (Nat × Blk)} {res : V} {dt : List Nat} (hp : PSteps P G ops p st0 s) (hsy : SyOk sy s) (hc : callOp P G ops Li Lo sy p.length s = some (dst, f, as, ins)) (hdt : ∀ q, q ∈ O → q.1 ∈ dt → DataRows q.2.rows)
  (hok : CallC P G f as (ofL ins) res (ofL O)) (hout : outsOk (Li ++ Lo) dt O res = true)
  (h5 : reK P G a k (opR ops p.length s ((Li ++ Lo).map (·.2))) (callWs (Li ++ Lo) dt O dst res) s p sy (fun g s p sy => next g s p (syOuts (Li ++ Lo) dt ++ sy)) = k.expect F) (hr : k.run = some r) : Goes P G ops F r st0 (p.length + 1) next := by
 have hs := callOp_spec hsy hc hdt hok hout
 obtain ⟨g', sy', p', x1, x2, x3, x4, x5⟩ := reK_sound h5 hr hp hsy hs
 refine ⟨g', _, p', _, x1, x2, x3, fun b hb q hq => ?_, x5⟩
 rcases List.mem_append.1 hb with hb | hb
 ·unfold syOuts at hb
  obtain ⟨y, hy, rfl⟩ := List.mem_map.1 hb
  obtain ⟨y1, y2⟩ := List.mem_filter.1 hy
  unfold callOp at hc
  split at hc
  ·split at hc
   ·rename_i hcond
    simp only [Bool.and_eq_true] at hcond
    have hids := hcond.1
    simp only [idsOk, Bool.and_eq_true, List.all_eq_true, beq_iff_eq, decide_eq_true_eq, Bool.not_eq_true'] at hids
    have i1 := hids.1.1.1
    have e0 : (s.app (callWs (Li ++ Lo) dt O dst res)).b y.2 = (ofL O y.1).map (renB dt y.1 (toCaller (Li ++ Lo))) := by
     unfold callWs
     rw [app_append]
     have e1 : ∀ s' : St, (s'.app (dstW dst (renV (toCaller (Li ++ Lo)) res))).b y.2 = s'.b y.2 := fun s' => app_b_other (by cases dst <;> simp [dstW, wrBs])
     rw [e1]
     have := (app_b_in ((ofL O y.1).map (renB dt y.1 (toCaller (Li ++ Lo)))) ((Li ++ Lo).map fun z => (z.2, (ofL O z.1).map (renB dt z.1 (toCaller (Li ++ Lo))))) s y.2 (fun z hz e => by
      obtain ⟨z', hz', rfl⟩ := List.mem_map.1 hz
      simp only at e ⊢
      have a1 := (i1 z' hz').1.2
      have a2 := (i1 y y1).1.2
      rw [e, a2] at a1
      rw [a1]) ⟨_, List.mem_map.2 ⟨y, y1, rfl⟩, rfl⟩).1
     rw [List.map_map] at this
     exact this
    rw [e0] at hq
    cases hO : ofL O y.1 with
    | none => rw [hO] at hq; simp at hq
    | some k =>
     rw [hO] at hq
     simp only [Option.map_some, Option.some.injEq] at hq
     subst hq
     have hd := hdt (y.1, k) (ofL_some hO) (by simpa using y2)
     rw [renB_eq (fun _ => hd), hd.ren]; exact hd
   ·simp at hc
  ·simp at hc
 ·exact x4 b hb q hq
theorem dop_sound {ρ : Type} {F : Fin' ρ} {g : T P G ρ} {s st0 : St} {p : Plan} {sy : List Nat} {next : T P G ρ → St → Plan → List Nat → C} {r : ρ}
  (h : dop P G id ops p.length g s p sy next = g.expect F) (hr : g.run = some r) (hp : PSteps P G ops p st0 s) (hsy : SyOk sy s) : Goes P G ops F r st0 (p.length + 1) next := by
 have pl : dflt P G ops p.length g s p sy next = g.expect F → Goes P G ops F r st0 (p.length + 1) next := fun h => dflt_sound (expect_ns F g) h hr hp hsy
 cases g <;> simp only [dop] at h <;> try exact pl h
 case fail => simp [T.run] at hr
 case chk a c k =>
  split at h
  ·split at h
   ·rename_i c' ws hc
    simp only [T.expect, C.chk.injEq] at h
    obtain ⟨rfl, h2⟩ := h
    simp only [T.run] at hr
    cases c' with
    | false => simp at hr
    | true =>
     obtain ⟨g', sy', p', x1, x2, x3, x4, x5⟩ := reK_sound h2 hr hp hsy (chkOp_spec hc rfl)
     exact ⟨g', _, p', sy', x1, x2, x3, x4, x5⟩
   ·exact absurd h (expect_ns F _ _)
  ·exact pl h
 case re a w k =>
  split at h
  ·split at h
   ·rename_i R ws hrw
    simp only [T.expect, C.re.injEq] at h
    obtain ⟨h1, h2⟩ := h
    have e : ws = w.b := h1.trans w.h
    subst e
    exact ⟨k, _, _, _, h2, hr, hp.push (stepRW_spec hrw), hsy.step w.dat, by simp⟩
   ·exact absurd h (expect_ns F _ _)
  ·exact pl h
 case row α a ty l j c k =>
  split at h
  ·split at h
   ·rename_i rows j' c' f hro
    simp only [T.expect, C.row.injEq, heq_eq_eq, true_and] at h
    obtain ⟨rfl, rfl, rfl, h4⟩ := h
    simp only [T.run] at hr
    cases c' with
    | false => simp at hr
    | true =>
     simp only [cond_true] at hr
     split at hr
     ·rename_i x hx
      have h5 := congrFun h4 x
      split at h5
      ·rename_i ws hws
       have hrow : (l.map ty.c)[j']? = some (ty.c x) := by rw [List.getElem?_map, hx]; rfl
       obtain ⟨g', sy', p', x1, x2, x3, x4, x5⟩ := reK_sound h5 hr hp hsy (rowOp_spec hro rfl hrow hws)
       exact ⟨g', _, p', sy', x1, x2, x3, x4, x5⟩
      ·exact absurd h5 (expect_ns F _ _)
     ·simp at hr
   ·exact absurd h (expect_ns F _ _)
  ·exact pl h
 case app α a ty l x bytes fl hf k =>
  split at h
  ·split at h
   ·rename_i A hA
    simp only [T.expect, C.app.injEq] at h
    obtain ⟨h1, h2, h3, h4, h5, h6⟩ := h
    simp only [T.run] at hr
    cases hc : decide ((l.length + x.length) * bytes ≤ 140737488355328) with
    | false => rw [hc] at hr; simp at hr
    | true =>
     rw [hc] at hr
     simp only [cond_true] at hr
     have hb : (l.length + x.length) * A.bytes ≤ 140737488355328 := by rw [h4]; simpa using hc
     have hs := appOp_spec hA h1 h2 h3 (fun e => ⟨appOp_fl hA e, hf (by rw [← h5]; exact e)⟩) hb
     refine ⟨k, _, _, _, h6, hr, hp.push hs, hsy.step (fun i k hm hi => ?_), by simp⟩
     simp only [List.mem_singleton] at hi
     subst hi
     simp only [List.mem_append, List.mem_cons, List.not_mem_nil, or_false, Wr.b.injEq, Option.some.injEq, true_and, reduceCtorEq] at hm
     rcases hm with hm | hm | hm
     ·unfold delW at hm; split at hm <;> simp at hm
     ·unfold delW at hm; split at hm <;> simp at hm
     ·subst hm; exact ty.data _
   ·exact absurd h (expect_ns F _ _)
  ·exact pl h
 case hrow α a ty l hole j k =>
  split at h
  ·split at h
   ·rename_i rows j' c' f hro
    split at h
    ·split at h
     ·rename_i ws hws
      simp only [T.expect, C.hrow.injEq] at h
      obtain ⟨rfl, rfl, h3⟩ := h
      simp only [T.run] at hr
      split at hr
      ·rename_i x hx
       have hrow : ((l.map ty.c).set j' hole)[j']? = some hole := by
        rw [List.getElem?_set_self]; simpa using (List.getElem?_eq_some_iff.1 hx).1
       obtain ⟨g', sy', p', x1, x2, x3, x4, x5⟩ := reK_sound h3 hr hp hsy (rowOp_spec hro rfl hrow hws)
       exact ⟨g', _, p', sy', x1, x2, x3, x4, x5⟩
      ·simp at hr
     ·exact absurd h (expect_ns F _ _)
    ·exact absurd h (expect_ns F _ _)
   ·exact absurd h (expect_ns F _ _)
  ·exact pl h
 case rowt α a ty l j col k =>
  split at h
  ·split at h
   ·rename_i rows j' f hro
    simp only [T.expect, C.row.injEq, heq_eq_eq, true_and] at h
    obtain ⟨rfl, rfl, h4⟩ := h
    simp only [T.run] at hr
    split at hr
    ·rename_i x hx
     have h5 := congrFun h4 x
     split at h5
     ·rename_i ws hws
      have hrow : (l.map ty.c)[j']? = some (ty.c x) := by rw [List.getElem?_map, hx]; rfl
      obtain ⟨g', sy', p', x1, x2, x3, x4, x5⟩ := reK_sound h5 hr hp hsy (takeOp_spec hro hrow hws)
      exact ⟨g', _, p', sy', x1, x2, x3, x4, x5⟩
     ·exact absurd h5 (expect_ns F _ _)
    ·simp at hr
   ·exact absurd h (expect_ns F _ _)
  ·exact pl h
 case nst α β a ty l hole j col y ty2 o cut k =>
  split at h
  ·split at h
   ·rename_i b kb r d2 kd off len row hn
    have dat : ∀ (q : Blk) (i : Nat), Wr.b i (some q) ∈ [Wr.b b (some (⟨kb.size, true, (l.set j y).map ty.c⟩ : Blk)), Wr.b d2 none] → i ∈ [b] → DataRows q.rows := fun q i hm hi => by
     simp only [List.mem_singleton] at hi
     subst hi
     simp only [List.mem_cons, List.not_mem_nil, or_false, Wr.b.injEq, Option.some.injEq, true_and, reduceCtorEq, and_false] at hm
     subst hm
     exact ty.data _
    cases cut with
    | none =>
     simp only [T.expect, C.nst.injEq] at h
     obtain ⟨h1, rfl, h3, h4a, h4, h5, h6⟩ := h
     simp only [T.run] at hr
     split at hr
     ·rename_i x hx
      have hs := nstOp_spec hn h1 h3 (by omega) (by rw [h4, h4a]; rfl) (by rw [h4a]; simp) h5 (List.getElem?_eq_some_iff.1 hx).1
      exact ⟨k, _, _, _, h6, hr, hp.push hs, hsy.step (fun i q hm hi => dat q i hm hi), by simp⟩
     ·simp at hr
    | some n =>
     simp only [T.expect, C.nst.injEq] at h
     obtain ⟨h1, rfl, h3, h4a, h4, h5, h6⟩ := h
     simp only [T.run] at hr
     split at hr
     ·rename_i x hx
      cases hc : decide (n ≤ o.length) with
      | false => rw [hc] at hr; simp at hr
      | true =>
       rw [hc] at hr
       have hn' : n ≤ o.length := by simpa using hc
       have hs := nstOp_spec hn h1 h3 (by rw [h4a]; exact hn') (by rw [h4, h4a]) (by rw [h4a]) h5 (List.getElem?_eq_some_iff.1 hx).1
       exact ⟨k, _, _, _, h6, by simpa using hr, hp.push hs, hsy.step (fun i q hm hi => dat q i hm hi), by simp⟩
     ·simp at hr
   ·exact absurd h (expect_ns F _ _)
  ·exact pl h
 case appn α β a ty l y col d2 ty2 o bytes k =>
  split at h
  ·split at h
   ·rename_i A kd hA hkd
    split at h
    ·rename_i hc0
     simp only [Bool.not_eq_true', Bool.or_eq_false_iff, beq_eq_false_iff_ne, ne_eq] at hc0
     simp only [T.expect, C.appn.injEq] at h
     obtain ⟨h1, h2, h3, h4, h5, h6, h7⟩ := h
     simp only [T.run] at hr
     cases hc : decide ((l.length + 1) * bytes ≤ 140737488355328) with
     | false => rw [hc] at hr; simp at hr
     | true =>
      rw [hc] at hr
      simp only [cond_true] at hr
      have hb : (l.length + 1) * A.bytes ≤ 140737488355328 := by rw [h4]; simpa using hc
      have hs := appnOp_spec hA hkd h1 h2 h3 hc0.1 hc0.2.1 hc0.2.2.1 hc0.2.2.2 h5 h6.symm hb
      refine ⟨k, _, _, _, h7, hr, hp.push hs, hsy.step (fun i q hm hi => ?_), by simp⟩
      simp only [List.mem_singleton] at hi
      subst hi
      simp only [List.mem_append, List.mem_cons, List.not_mem_nil, or_false, Wr.b.injEq, Option.some.injEq, true_and, reduceCtorEq, and_false] at hm
      rcases hm with hm | hm | hm
      ·unfold delW at hm; split at hm <;> simp at hm
      ·unfold delW at hm; split at hm <;> simp at hm
      ·subst hm; exact ty.data _
    ·exact absurd h (expect_ns F _ _)
   ·exact absurd h (expect_ns F _ _)
  ·exact pl h
 case call α a sp Li Lo k =>
  split at h
  ·split at h
   ·rename_i dst f as ins hc
    simp only [T.expect, C.call.injEq, heq_eq_eq, true_and] at h
    obtain ⟨rfl, h2, rfl, h4⟩ := h
    simp only [T.run] at hr
    split at hr
    ·rename_i x hx
     have h5 := congrFun h4 x
     split at h5
     ·rename_i hout
      exact call_case hp hsy hc (sp.dat x) (by have := sp.ok x hx; rw [← h2] at this; exact this.coe) hout h5 hr
     ·exact absurd h5 (expect_ns F _ _)
    ·simp at hr
   ·exact absurd h (expect_ns F _ _)
  ·exact pl h
 case call2 α β a sp Li Lo k k2 =>
  split at h
  ·split at h
   ·rename_i dst f as ins hc
    simp only [T.expect, C.call2.injEq, heq_eq_eq, true_and] at h
    obtain ⟨rfl, h2, rfl, h4, h4b⟩ := h
    simp only [T.run] at hr
    split at hr
    ·rename_i x hx
     have h5 := congrFun h4 x
     split at h5
     ·rename_i hout
      exact call_case hp hsy hc (sp.dat _) (by have := sp.ok _ hx; rw [← h2] at this; exact this.coe) hout h5 hr
     ·exact absurd h5 (expect_ns F _ _)
    ·rename_i x hx
     have h5 := congrFun h4b x
     split at h5
     ·rename_i hout
      exact call_case hp hsy hc (sp.dat _) (by have := sp.ok _ hx; rw [← h2] at this; exact this.coe) hout h5 hr
     ·exact absurd h5 (expect_ns F _ _)
    ·simp at hr
   ·exact absurd h (expect_ns F _ _)
  ·exact pl h
 case view α a sp vs k =>
  split at h
  ·split at h
   ·split at h
    ·rename_i dst f ds eqs hv
     simp only [T.expect, C.view.injEq, heq_eq_eq, true_and] at h
     obtain ⟨rfl, h2, h3, h4⟩ := h
     simp only [T.run] at hr
     split at hr
     ·rename_i x hx
      have h5 := congrFun h4 x
      split at h5
      ·rename_i hfl
       simp only [Bool.and_eq_true, List.isEmpty_iff] at hfl
       obtain ⟨f1, f2, f3⟩ := hfl
       have hok := sp.ok x hx
       rw [f2, f3, ← h2] at hok
       have hok := hok.coe
       have hs := viewOp_spec hv h3 hok f1
       exact ⟨_, _, _, _, h5, hr, hp.push hs, fun b hb q hq => hsy b hb q (by
        rw [← hq]; exact (app_b_other (by cases dst <;> simp [dstW, wrBs])).symm), by simp⟩
      ·exact absurd h5 (expect_ns F _ _)
     ·simp at hr
    ·exact absurd h (expect_ns F _ _)
   ·exact absurd h (expect_ns F _ _)
  ·exact pl h
 case opr β a R k =>
  split at h
  ·split at h
   ·rename_i o ho
    split at h
    ·rename_i hfr
     simp only [T.expect, C.rule.injEq, heq_eq_eq, true_and] at h
     obtain ⟨h1, h2, h3, h4, h5⟩ := h
     simp only [T.run] at hr
     split at hr
     ·rename_i x hx
      have hs : StepL P G ops p.length s (opR ops p.length s (R.blks.map (·.1))) (R.ws x) := stepL_of ⟨o, ho, fun s2 hn ht hb hu => R.ok x hx o s2 h1 h2
       (fun q hq => Evs.of (List.map_inj_left.1 h3 q hq) ht)
       (fun q hq => by rw [(hb q.1 (List.mem_append_right _ (List.mem_map.2 ⟨q, hq, rfl⟩))).1]; exact List.map_inj_left.1 h4 q hq)
       (fun d hd => by
        have hd' : o.dst = some d := h2.trans hd
        rw [hd'] at hfr
        simp only [Bool.and_eq_true, decide_eq_true_eq, Bool.not_eq_true'] at hfr
        rw [hn, (hu d hd').2]; exact hfr)⟩
      exact ⟨_, _, _, _, congrFun h5 x, hr, hp.push hs, hsy.step (R.dat x), by simp⟩
     ·simp at hr
    ·exact absurd h (expect_ns F _ _)
   ·exact absurd h (expect_ns F _ _)
  ·exact pl h
theorem guardT_spec {i : Nat} {s : St} {d : Nat} {b : Bool} (h : guardT ops i s = some (d, b)) : s.setT d (.bool b) = s := by
 unfold guardT at h
 split at h
 ·split at h
  ·split at h
   ·split at h
    ·rename_i b' hb
     simp only [Option.some.injEq, Prod.mk.injEq] at h
     obtain ⟨rfl, rfl⟩ := h
     unfold St.setT
     cases s
     simp only [St.mk.injEq, true_and, and_true]
     funext j
     split
     ·rename_i hj; subst hj; exact hb.symm
     ·rfl
    ·simp at h
   ·simp at h
  ·simp at h
 ·simp at h
theorem setT_self {s : St} {t : Nat} {c : V} (hb : s.t t = c) : s.setT t c = s := by
 unfold St.setT
 cases s
 simp only [St.mk.injEq, true_and, and_true]
 funext j
 split
 ·rename_i hj; subst hj; exact hb.symm
 ·rfl
theorem idxT_spec {i : Nat} {s : St} {t : Nat} {k : IntKind} {m : Int} (h : idxT ops i s = some (t, k, m)) : s.setT t (.int k m) = s := by
 unfold idxT at h
 split at h
 ·split at h
  ·split at h
   ·rename_i hb
    simp only [Option.some.injEq, Prod.mk.injEq] at h
    obtain ⟨rfl, rfl, rfl⟩ := h
    exact setT_self hb
   ·simp at h
  ·split at h
   ·rename_i hb
    simp only [Option.some.injEq, Prod.mk.injEq] at h
    obtain ⟨rfl, rfl, rfl⟩ := h
    exact setT_self hb
   ·simp at h
  ·simp at h
 ·simp at h
theorem ceq_sound {m n : Int} {A B : Int → C} : ∀ (vs : List Int), vs.foldr (fun v r => C.br (m == v) (A v) r) C.fail = vs.foldr (fun v r => C.br (n == v) (B v) r) C.fail → vs.contains n = true → m = n ∧ A n = B n
 | [], _, h => by simp at h
 | v :: vs, h, hc => by
  simp only [List.foldr_cons, C.br.injEq] at h
  obtain ⟨h1, h2, h3⟩ := h
  by_cases hn : n = v
  ·subst hn
   simp only [beq_self_eq_true, beq_iff_eq] at h1
   exact ⟨h1, h2⟩
  ·refine ceq_sound vs h3 ?_
   simp only [List.contains_cons, Bool.or_eq_true, beq_iff_eq] at hc
   exact hc.resolve_left hn
theorem rg_sound {ρ : Type} {F : Fin' ρ} {r : ρ} {st0 : St} {κ : T P G ρ → St → Plan → List Nat → C} : ∀ (m : Nat) (g : T P G ρ) (s : St) (p : Plan) (sy : List Nat),
  rg P G id ops (List.range' p.length m) g s p sy κ = g.expect F → g.run = some r → PSteps P G ops p st0 s → SyOk sy s → Goes P G ops F r st0 (p.length + m) κ
 | 0, g, s, p, sy, h, hr, hp, hsy => ⟨g, s, p, sy, h, hr, hp, hsy, rfl⟩
 | m + 1, g, s, p, sy, h, hr, hp, hsy => by
  rw [List.range'_succ] at h
  have step : ∀ (g : T P G ρ) (s : St), PSteps P G ops p st0 s → SyOk sy s → g.run = some r → ∀ n1, n1 = p.length + 1 →
    dop P G id ops p.length g s p sy (fun g s p' sy => rg P G id ops (List.range' n1 m) g s p' sy κ) = g.expect F → Goes P G ops F r st0 (p.length + (m + 1)) κ := by
   intro g s hp hsy hr n1 hn1 h
   obtain ⟨g', s', p', sy', x1, x2, x3, x4, x5⟩ := dop_sound h hr hp hsy
   have := rg_sound m g' s' p' sy' (by rw [x5, ← hn1]; exact x1) x2 x3 x4
   rw [x5] at this
   rw [show p.length + (m + 1) = p.length + 1 + m by omega]; exact this
  have pl : dop P G id ops p.length g s p sy (fun g s p' sy => rg P G id ops (List.range' (p.length + 1) m) g s p' sy κ) = g.expect F → Goes P G ops F r st0 (p.length + (m + 1)) κ := step g s hp hsy hr _ rfl
  cases g <;> try exact pl h
  case br a c x y =>
   simp only [rg] at h
   split at h
   ·split at h
    ·rename_i d b hg
     simp only [T.expect, C.br.injEq] at h
     obtain ⟨rfl, h1, h2⟩ := h
     simp only [T.run] at hr
     have e := guardT_spec hg
     cases b with
     | true => rw [e] at h1; exact step x s hp hsy (by simpa using hr) _ rfl h1
     | false => rw [e] at h2; exact step y s hp hsy (by simpa using hr) _ rfl h2
    ·exact absurd h (expect_ns F _ _)
   ·exact pl h
  case ceq a n vs k =>
   simp only [rg] at h
   split at h
   ·split at h
    ·rename_i t kd m' hg
     simp only [T.expect] at h
     simp only [T.run] at hr
     cases hc : vs.contains n with
     | false => rw [hc] at hr; simp at hr
     | true =>
      rw [hc] at hr
      obtain ⟨rfl, h2⟩ := ceq_sound vs h hc
      have e := idxT_spec hg
      rw [e] at h2
      exact step _ s hp hsy (by simpa using hr) _ rfl h2
    ·exact absurd h (expect_ns F (T.ceq a n vs k) _)
   ·exact pl h
theorem region_sound {ρ : Type} {F : Fin' ρ} {g : T P G ρ} {r : ρ} {st : St} {sy : List Nat} {κ : T P G ρ → St → Plan → List Nat → C} (h : rg P G id ops (List.range' 0 ops.size) g st [] sy κ = g.expect F) (hr : g.run = some r) (hsy : SyOk sy st) :
  ∃ g' s p sy', κ g' s p sy' = g'.expect F ∧ g'.run = some r ∧ SyOk sy' s ∧ p.length = ops.size ∧ s = along p st ops.size ∧ ∀ i, i < ops.size → StepL P G ops i (along p st i) (p.rs i) (p.ws i) := by
 obtain ⟨g', s, p, sy', x1, x2, x3, x4, x5⟩ := rg_sound (st0 := st) ops.size g st [] sy h hr ⟨rfl, fun j hj => by simp at hj⟩ hsy
 simp only [List.length_nil, Nat.zero_add] at x5
 refine ⟨g', s, p, sy', x1, x2, x4, x5, ?_, fun i hi => ?_⟩
 ·rw [← x5]; exact x3.1
 ·exact x3.2 i (by omega)
theorem TV.plan {draw : Bool} {rid : Nat} {st s : St} {p : Plan} {Q : Exit → St → Prop} (hm : P.follows .mixedOrders = true) (hd : (!draw || drawOk ops p) = true) (hs : s = along p st ops.size)
  (hst : ∀ i, i < ops.size → StepL P G ops i (along p st i) (p.rs i) (p.ws i)) (hq : Q .normal s) : TV P G (.region rid ops draw) st Q := by
 cases draw with
 | false =>
  refine TV.region ?_
  have := TVops.plan (Q := Q) hst (by rw [← hs]; exact hq) ops.size 0 (by omega)
  rw [List.range_eq_range']; exact this
 | true =>
  simp only [Bool.not_true, Bool.false_or, drawOk, Bool.and_eq_true] at hd
  refine TV.draw hm hd.1 hd.2 (fun i hi => ?_) ?_
  ·rw [planSt_along, show min i ops.size = i by omega]; exact hst i hi
  ·rw [planSt_all, ← hs]; exact hq
end
end Go.EV
namespace Go.EV
open Go
mutual
theorem okV_mono {u u' : Nat → Bool} (h : ∀ b, u b = true → u' b = true) : ∀ (c : V), okV u c = true → okV u' c = true
 | .int _ _, _ => rfl
 | .bool _, _ => rfl
 | .str _, _ => rfl
 | .nilp, _ => rfl
 | .nilf, _ => rfl
 | .yld _, _ => rfl
 | .nilsl, _ => rfl
 | .sl _ _ _, _ => rfl
 | .snap _, _ => rfl
 | .undef, _ => rfl
 | .ref b _ _, hc => by simp only [okV] at hc ⊢; exact h b hc
 | .ptr b _ _, hc => by simp only [okV] at hc ⊢; exact h b hc
 | .mp b, hc => by simp only [okV] at hc ⊢; exact h b hc
 | .fn _ a c, hc => by
  simp only [okV, Bool.and_eq_true] at hc ⊢
  exact ⟨okL_mono h a hc.1, okL_mono h c hc.2⟩
 | .agg l, hc => by simp only [okV] at hc ⊢; exact okL_mono h l hc
 | .tup l, hc => by simp only [okV] at hc ⊢; exact okL_mono h l hc
theorem okL_mono {u u' : Nat → Bool} (h : ∀ b, u b = true → u' b = true) : ∀ (l : List V), okL u l = true → okL u' l = true
 | [], _ => rfl
 | c :: l, hc => by
  simp only [okL, Bool.and_eq_true] at hc ⊢
  exact ⟨okV_mono h c hc.1, okL_mono h l hc.2⟩
end
structure D.Ok (d : D) : Prop where
 tmp : ∀ i, okV (okU d.us) (d.st.t i) = true
 blk : ∀ {b k}, d.st.b b = some k → okU d.us b = true ∧ ∀ r, r ∈ k.rows → ∀ c, c ∈ r → okV (okU d.us) c = true
 sy : SyOk d.sy d.st
theorem D.Ok.of_forget {s : St} {d : D} (f : Forget s d.st) (hsy : SyOk d.sy d.st) : d.Ok where
 tmp := fun i => by
  rcases f.t i with e | ⟨e, h⟩
  ·rw [e]; rfl
  ·rw [e]; exact h
 blk := fun {b k} hk => by
  rcases f.b b with e | ⟨e, h⟩
  ·rw [e] at hk; simp at hk
  ·rw [e] at hk; exact h k hk
 sy := hsy
theorem find_mem {α : Type} {l : List (Nat × α)} {i : Nat} {p : Nat × α} (h : l.find? (fun x => x.1 == i) = some p) : p ∈ l ∧ p.1 = i :=
 ⟨List.mem_of_find?_eq_some h, by simpa using List.find?_some h⟩
theorem find_none {α : Type} {l : List (Nat × α)} {i : Nat} (h : l.find? (fun x => x.1 == i) = none) : ∀ p, p ∈ l → p.1 ≠ i := fun p hp e => by
 have := List.find?_eq_none.1 h p hp
 simp [e] at this
theorem find_filter {α : Type} {q : Nat → Bool} {i : Nat} (hq : q i = true) : ∀ l : List (Nat × α), (l.filter fun x => q x.1).find? (fun x => x.1 == i) = l.find? (fun x => x.1 == i)
 | [] => rfl
 | p :: l => by
  have ih := find_filter hq l
  by_cases hp : p.1 = i
  ·have : q p.1 = true := by rw [hp]; exact hq
   simp only [List.filter_cons, this, if_true]
   simp [hp]
  ·by_cases hqp : q p.1 = true
   ·simp only [List.filter_cons, hqp, if_true]
    rw [List.find?_cons_of_neg (by simpa using hp), List.find?_cons_of_neg (by simpa using hp), ih]
   ·simp only [List.filter_cons, hqp, if_false, Bool.false_eq_true]
    rw [List.find?_cons_of_neg (by simpa using hp), ih]
theorem find_filter_none {α : Type} {q : Nat → Bool} {i : Nat} (hq : q i = false) (l : List (Nat × α)) : (l.filter fun x => q x.1).find? (fun x => x.1 == i) = none := by
 refine List.find?_eq_none.2 fun p hp e => ?_
 have := (List.mem_filter.1 hp).2
 simp only [beq_iff_eq] at e
 rw [e, hq] at this
 simp at this
theorem stOf_t {n : Nat} {ts : List (Nat × V)} {bs : List (Nat × Blk)} {us : List Nat} (i : Nat) : (stOf n ts bs us).t i = (match ts.find? (fun p => p.1 == i) with | some p => p.2 | none => .undef) := rfl
theorem stOf_b {n : Nat} {ts : List (Nat × V)} {bs : List (Nat × Blk)} {us : List Nat} (i : Nat) : (stOf n ts bs us).b i = (match bs.find? (fun p => p.1 == i) with | some p => some p.2 | none => none) := rfl
theorem okU_top {us : List Nat} {b : Nat} (h : 1000000 ≤ b) : okU us b = true := by simp [okU, uTop, h]
theorem D.st_u (d : D) : d.st.u = okU d.us := rfl
theorem D.Ok.of_lists {d : D} (ht : ∀ p, p ∈ d.ts → okV (okU d.us) p.2 = true) (hb : ∀ p, p ∈ d.bs → okU d.us p.1 = true ∧ ∀ r, r ∈ p.2.rows → ∀ c, c ∈ r → okV (okU d.us) c = true) (hsy : SyOk d.sy d.st) : d.Ok where
 tmp := fun i => by
  unfold D.st
  rw [stOf_t]
  split
  ·rename_i p hp; exact ht p (find_mem hp).1
  ·rfl
 blk := fun {b k} hk => by
  unfold D.st at hk
  rw [stOf_b] at hk
  split at hk
  ·rename_i p hp
   simp only [Option.some.injEq] at hk
   subst hk
   obtain ⟨h1, h2⟩ := find_mem hp
   have := hb p h1
   rw [h2] at this; exact this
  ·simp at hk
 sy := hsy
theorem dedup_mem : ∀ (l : List Nat) (x : Nat), x ∈ dedup l ↔ x ∈ l
 | [], x => by simp [dedup]
 | y :: l, x => by
  simp only [dedup]
  split
  ·rename_i hc
   rw [dedup_mem l x]
   simp only [List.mem_cons]
   constructor
   ·exact .inr
   ·rintro (rfl | h)
    ·simpa using hc
    ·exact h
  ·simp only [List.mem_cons, dedup_mem l x]
theorem along_t_other {p : Plan} {st : St} {t : Nat} (h : ¬ t ∈ p.wts) : ∀ n, (along p st n).t t = st.t t
 | 0 => rfl
 | n + 1 => by
  simp only [along]
  rw [app_t_other, along_t_other h n]
  intro hm
  by_cases hn : n < p.length
  ·refine h (List.mem_flatMap.2 ⟨p[n], List.getElem_mem hn, ?_⟩)
   have : p.ws n = p[n].2 := by unfold Plan.ws; rw [List.getD_eq_getElem?_getD, List.getElem?_eq_getElem hn]; rfl
   rwa [this] at hm
  ·have : p.ws n = [] := by unfold Plan.ws; rw [List.getD_eq_getElem?_getD, List.getElem?_eq_none (by omega)]; rfl
   rw [this] at hm; simp [wrTs] at hm
theorem along_b_other {p : Plan} {st : St} {b : Nat} (h : ¬ b ∈ p.wbs) : ∀ n, (along p st n).b b = st.b b
 | 0 => rfl
 | n + 1 => by
  simp only [along]
  rw [app_b_other, along_b_other h n]
  intro hm
  by_cases hn : n < p.length
  ·refine h (List.mem_flatMap.2 ⟨p[n], List.getElem_mem hn, ?_⟩)
   have : p.ws n = p[n].2 := by unfold Plan.ws; rw [List.getD_eq_getElem?_getD, List.getElem?_eq_getElem hn]; rfl
   rwa [this] at hm
  ·have : p.ws n = [] := by unfold Plan.ws; rw [List.getD_eq_getElem?_getD, List.getElem?_eq_none (by omega)]; rfl
   rw [this] at hm; simp [wrBs] at hm
theorem along_n {p : Plan} {st : St} : ∀ n, (along p st n).n = st.n
 | 0 => rfl
 | n + 1 => by simp only [along, app_n, along_n n]
theorem regEnd_spec {kp : List Nat} {d : D} {s : St} {p : Plan} {sy : List Nat} {next : D → C} {X : C} {m : Nat} (h : regEnd kp d s p sy next = X) (hX : ∀ j, C.stuck j ≠ X) (hd : d.Ok) (hs : s = along p d.st m) (hsy : SyOk sy s) :
  ∃ d' : D, next d' = X ∧ d'.Ok ∧ Forget s d'.st ∧ d'.n = d.n := by
 unfold regEnd at h
 simp only [nrmT_eq, nrmB_eq] at h
 split at h
 rotate_left
 ·exact absurd h (hX _)
 rename_i hc
 simp only [Bool.and_eq_true, List.all_eq_true] at hc
 obtain ⟨hnt, hnb⟩ := hc
 refine ⟨_, h, ?_⟩
 have mu : ∀ b, okU d.us b = true → okU (dedup (p.wbs ++ d.us)) b = true := fun b hb => by
  simp only [okU, Bool.or_eq_true, List.contains_eq_mem, decide_eq_true_eq] at hb ⊢
  rcases hb with hb | hb
  ·exact .inl ((dedup_mem _ _).2 (List.mem_append_right _ hb))
  ·exact .inr hb
 have nbm : ∀ x, x ∈ newBs p.wbs s → x.1 ∈ p.wbs ∧ s.b x.1 = some x.2 := fun x hx => by
  unfold newBs at hx
  obtain ⟨b, h1, h2⟩ := List.mem_filterMap.1 hx
  split at h2
  ·rename_i k hk
   simp only [Option.some.injEq] at h2
   subst h2
   exact ⟨(dedup_mem _ _).1 h1, hk⟩
  ·simp at h2
 have nbOk : ∀ x, x ∈ newBs p.wbs s → okU (dedup (p.wbs ++ d.us)) x.1 = true ∧ ∀ r, r ∈ x.2.rows → ∀ c, c ∈ r → okV (okU (dedup (p.wbs ++ d.us))) c = true := fun x hx => by
  obtain ⟨h1, h2⟩ := nbm x hx
  refine ⟨by simp only [okU, Bool.or_eq_true, List.contains_eq_mem, decide_eq_true_eq]; exact .inl ((dedup_mem _ _).2 (List.mem_append_left _ h1)), fun r hr c hc => ?_⟩
  have := hnb x hx
  simp only [blkOkB, Bool.or_eq_true, List.contains_eq_mem, decide_eq_true_eq, List.all_eq_true] at this
  rcases this with h3 | h3
  ·exact dcell_okV (hsy x.1 h3 _ h2 r hr c hc) _
  ·exact h3 r hr c hc
 have F : Forget s (stOf d.n (newTs kp p.wts s ++ d.ts.filter fun x => !p.wts.contains x.1) (newBs p.wbs s ++ d.bs.filter fun x => !p.wbs.contains x.1) (dedup (p.wbs ++ d.us))) := by
  refine ⟨?_, fun i => ?_, fun b => ?_, fun b hb => okU_top (uPin_le hb)⟩
  ·rw [hs, along_n]; rfl
  ·rw [stOf_t, List.find?_append]
   cases hf : (newTs kp p.wts s).find? (fun p => p.1 == i) with
   | some x =>
    obtain ⟨h1, h2⟩ := find_mem hf
    have hx := hnt x h1
    unfold newTs at h1
    obtain ⟨j, _, rfl⟩ := List.mem_map.1 h1
    simp only at h2; subst h2
    exact .inr ⟨rfl, hx⟩
   | none =>
    simp only [Option.none_or]
    cases hw : p.wts.contains i with
    | true => rw [find_filter_none (q := fun j => !p.wts.contains j) (by simpa using hw)]; exact .inl rfl
    | false =>
     rw [find_filter (q := fun j => !p.wts.contains j) (by simp only [hw, Bool.not_false])]
     have e : s.t i = d.st.t i := by rw [hs]; exact along_t_other (by simpa using hw) m
     refine .inr ⟨by rw [e]; rfl, ?_⟩
     rw [e]
     exact okV_mono mu _ (hd.tmp i)
  ·rw [stOf_b, List.find?_append]
   cases hf : (newBs p.wbs s).find? (fun p => p.1 == b) with
   | some x =>
    obtain ⟨h1, h2⟩ := find_mem hf
    obtain ⟨_, h4⟩ := nbm x h1
    have h5 := nbOk x h1
    rw [h2] at h4 h5
    refine .inr ⟨by simp only [Option.some_or]; exact h4.symm, fun k hk => ?_⟩
    rw [h4] at hk
    simp only [Option.some.injEq] at hk
    subst hk; exact h5
   | none =>
    simp only [Option.none_or]
    cases hw : p.wbs.contains b with
    | true => rw [find_filter_none (q := fun j => !p.wbs.contains j) (by simpa using hw)]; exact .inl rfl
    | false =>
     rw [find_filter (q := fun j => !p.wbs.contains j) (by simp only [hw, Bool.not_false])]
     have e : s.b b = d.st.b b := by rw [hs]; exact along_b_other (by simpa using hw) m
     refine .inr ⟨by rw [e]; rfl, fun k hk => ?_⟩
     rw [e] at hk
     obtain ⟨h1, h2⟩ := hd.blk hk
     exact ⟨mu b h1, fun r hr c hc => okV_mono mu c (h2 r hr c hc)⟩
 refine ⟨D.Ok.of_forget F fun b hb k hk => ?_, F, rfl⟩
 rcases F.b b with e | ⟨e, _⟩
 ·have : (none : Option Blk) = some k := e.symm.trans hk
  simp at this
 ·exact hsy b hb k (e.symm.trans hk)
end Go.EV
namespace Go.EV
open Go
theorem find_map {α β : Type} (f : Nat → Nat) (h : Nat × α → β) (c c' : Nat) : ∀ (l : List (Nat × α)), (∀ p, p ∈ l → (f p.1 = c ↔ p.1 = c')) → (l.map fun p => (f p.1, h p)).find? (fun x => x.1 == c) = (l.find? fun x => x.1 == c').map fun p => (f p.1, h p)
 | [], _ => rfl
 | p :: l, hp => by
  have ih := find_map f h c c' l fun q hq => hp q (by simp [hq])
  have h0 := hp p (by simp)
  simp only [List.map_cons]
  by_cases hc : p.1 = c'
  ·rw [List.find?_cons_of_pos (by simpa using h0.2 hc), List.find?_cons_of_pos (by simpa using hc)]; rfl
  ·rw [List.find?_cons_of_neg (by simpa using fun e => hc (h0.1 e)), List.find?_cons_of_neg (by simpa using hc), ih]
theorem find_map_id {α β : Type} (h : Nat × α → β) (c : Nat) (l : List (Nat × α)) : (l.map fun p => (p.1, h p)).find? (fun x => x.1 == c) = (l.find? fun x => x.1 == c).map fun p => (p.1, h p) :=
 find_map (fun x => x) h c c l fun _ _ => Iff.rfl
theorem D.st_b (d : D) (b : Nat) : d.st.b b = (match d.bs.find? (fun p => p.1 == b) with | some p => some p.2 | none => none) := rfl
theorem D.st_t (d : D) (b : Nat) : d.st.t b = (match d.ts.find? (fun p => p.1 == b) with | some p => p.2 | none => .undef) := rfl
theorem okU_cons {b : Nat} {us : List Nat} (c : Nat) : okU (b :: us) c = if c = b then true else okU us c := by
 by_cases h : c = b
 ·subst h; simp [okU]
 ·simp [okU, h]
mutual
theorem okV_ren {u u' : Nat → Bool} {f : Nat → Nat} (h : ∀ b, u b = true → u' (f b) = true) : ∀ c : V, okV u c = true → okV u' (renV f c) = true
 | .int _ _, _ => rfl
 | .bool _, _ => rfl
 | .str _, _ => rfl
 | .nilp, _ => rfl
 | .nilf, _ => rfl
 | .yld _, _ => rfl
 | .nilsl, _ => rfl
 | .sl _ _ _, _ => rfl
 | .snap _, _ => rfl
 | .undef, _ => rfl
 | .ref b _ _, hc => by simp only [renV, okV] at hc ⊢; exact h b hc
 | .ptr b _ _, hc => by simp only [renV, okV] at hc ⊢; exact h b hc
 | .mp b, hc => by simp only [renV, okV] at hc ⊢; exact h b hc
 | .fn _ a c, hc => by
  simp only [renV, okV, Bool.and_eq_true] at hc ⊢
  exact ⟨okL_ren h a hc.1, okL_ren h c hc.2⟩
 | .agg l, hc => by simp only [renV, okV] at hc ⊢; exact okL_ren h l hc
 | .tup l, hc => by simp only [renV, okV] at hc ⊢; exact okL_ren h l hc
theorem okL_ren {u u' : Nat → Bool} {f : Nat → Nat} (h : ∀ b, u b = true → u' (f b) = true) : ∀ l : List V, okL u l = true → okL u' (renL f l) = true
 | [], _ => rfl
 | c :: l, hc => by
  simp only [renL, okL, Bool.and_eq_true] at hc ⊢
  exact ⟨okV_ren h c hc.1, okL_ren h l hc.2⟩
end
theorem okL_all {u : Nat → Bool} : ∀ {l : List V}, okL u l = true ↔ ∀ c, c ∈ l → okV u c = true
 | [] => by simp [okL]
 | c :: l => by simp [okL, okL_all (l := l)]
theorem ren_spec {G : Nat → Option (List V)} {d : D} {a b : Nat} {next : D → C} {X : C} (h : ghX (.ren a b) d next = X) (hX : ∀ j, C.stuck j ≠ X) (hd : d.Ok) : ∃ d' : D, next d' = X ∧ d'.Ok ∧ Gst G d.st d'.st ∧ d'.n = d.n := by
 simp only [ghX] at h
 split at h
 rotate_left
 ·exact absurd h (hX _)
 rename_i hub hab
 simp only [beq_eq_false_iff_ne, ne_eq] at hab
 simp only [nrmT_eq, nrmB_eq] at h
 refine ⟨_, h, ?_⟩
 have hno : ∀ p, p ∈ d.bs → p.1 ≠ b := fun p hp e => by
  cases hf : d.bs.find? (fun x => x.1 == b) with
  | none => exact find_none hf p hp e
  | some q =>
   have := (hd.blk (b := b) (k := q.2) (by rw [D.st_b, hf])).1
   rw [hub] at this; simp at this
 have hdata : ∀ p, d.bs.find? (fun x => x.1 == p.1) = some p → p.1 ∈ d.sy → DataRows p.2.rows := fun p hp hs => hd.sy p.1 hs p.2 (by rw [D.st_b, hp])
 have fb : ∀ p, p ∈ d.bs → (renF a b p.1 = b ↔ p.1 = a) := fun p hp => by
  unfold renF
  split
  ·rename_i e; simp [e]
  ·rename_i e; exact ⟨fun h => absurd h (hno p hp), fun h => absurd h e⟩
 have key : ∀ c c', (∀ p, p ∈ d.bs → (renF a b p.1 = c ↔ p.1 = c')) → (match (d.bs.map fun p => (renF a b p.1, renB d.sy p.1 (renF a b) p.2)).find? (fun x => x.1 == c) with | some p => some p.2 | none => none) = (d.st.b c').map (Blk.ren (renF a b)) := fun c c' hc => by
  rw [find_map (renF a b) (fun p => renB d.sy p.1 (renF a b) p.2) c c' d.bs hc, D.st_b]
  cases hf : d.bs.find? (fun x => x.1 == c') with
  | none => rfl
  | some p =>
   simp only [Option.map_some]
   rw [renB_eq fun hm => hdata p (by rw [(find_mem hf).2]; exact hf) hm]
 have e : (D.st ⟨d.n, d.ts.map fun p => (p.1, renV (renF a b) p.2), d.bs.map fun p => (renF a b p.1, renB d.sy p.1 (renF a b) p.2), b :: d.us, (d.sy.filter fun x => !(x == b)).map (renF a b)⟩) = d.st.renm a b := by
  unfold D.st St.renm
  simp only [stOf, St.mk.injEq, true_and]
  refine ⟨funext fun i => ?_, funext fun c => ?_, funext fun c => ?_⟩
  ·rw [find_map_id (fun p => renV (renF a b) p.2)]
   cases d.ts.find? (fun x => x.1 == i) <;> rfl
  ·by_cases hcb : c = b
   ·subst hcb
    rw [if_pos rfl]
    exact key c a fb
   ·rw [if_neg hcb]
    by_cases hca : c = a
    ·subst hca
     rw [if_pos rfl]
     have : (d.bs.map fun p => (renF c b p.1, renB d.sy p.1 (renF c b) p.2)).find? (fun x => x.1 == c) = none := List.find?_eq_none.2 fun x hx hxe => by
      obtain ⟨p, hp, rfl⟩ := List.mem_map.1 hx
      simp only [renF, beq_iff_eq] at hxe
      split at hxe
      ·exact hab hxe.symm
      ·rename_i hne; exact hne hxe
     rw [this]
    ·rw [if_neg hca]
     refine key c c fun p hp => ?_
     unfold renF
     split
     ·rename_i e; rw [e]; exact ⟨fun h => absurd h.symm hcb, fun h => absurd h.symm hca⟩
     ·exact Iff.rfl
  ·have := okU_cons (b := b) (us := d.us) c
   exact this
 have mu : ∀ c, okU d.us c = true → okU (b :: d.us) (renF a b c) = true := fun c hc => by
  unfold renF
  split
  ·simp [okU]
  ·rw [okU_cons]; split; rfl; exact hc
 refine ⟨⟨fun i => ?_, fun {c k} hk => ?_, ?_⟩, ?_, rfl⟩
 ·rw [e]; exact okV_ren mu _ (hd.tmp i)
 ·rw [e] at hk
  simp only [St.renm] at hk
  have go : ∀ y k0, d.st.b y = some k0 → okU (b :: d.us) (renF a b y) = true ∧ ∀ r, r ∈ (k0.ren (renF a b)).rows → ∀ c, c ∈ r → okV (okU (b :: d.us)) c = true := fun y k0 h0 => by
   obtain ⟨h1, h2⟩ := hd.blk h0
   refine ⟨mu _ h1, fun r hr c hc => ?_⟩
   simp only [Blk.ren] at hr
   obtain ⟨r0, hr0, rfl⟩ := List.mem_map.1 hr
   rw [renL_eq] at hc
   obtain ⟨c0, hc0, rfl⟩ := List.mem_map.1 hc
   exact okV_ren mu _ (h2 r0 hr0 c0 hc0)
  by_cases hcb : c = b
  ·subst hcb
   rw [if_pos rfl] at hk
   obtain ⟨k0, h1, rfl⟩ := Option.map_eq_some_iff.1 hk
   have := go a k0 h1
   rwa [show renF a c a = c by simp [renF]] at this
  ·rw [if_neg hcb] at hk
   split at hk
   ·simp at hk
   ·rename_i hca
    obtain ⟨k0, h1, rfl⟩ := Option.map_eq_some_iff.1 hk
    have := go c k0 h1
    rwa [show renF a b c = c by simp [renF, hca]] at this
 ·rw [e]
  intro x hx k hk
  obtain ⟨y, hy, rfl⟩ := List.mem_map.1 hx
  obtain ⟨hy1, hy2⟩ := List.mem_filter.1 hy
  simp only [Bool.not_eq_true', beq_eq_false_iff_ne, ne_eq] at hy2
  have src : ∃ k0, d.st.b y = some k0 ∧ k = k0.ren (renF a b) := by
   simp only [St.renm] at hk
   by_cases hya : y = a
   ·subst hya
    have e2 : renF y b y = b := by simp [renF]
    rw [e2, if_pos rfl] at hk
    obtain ⟨k0, h1, h2⟩ := Option.map_eq_some_iff.1 hk
    exact ⟨k0, h1, h2.symm⟩
   ·have e2 : renF a b y = y := by simp [renF, hya]
    rw [e2, if_neg hy2, if_neg hya] at hk
    obtain ⟨k0, h1, h2⟩ := Option.map_eq_some_iff.1 hk
    exact ⟨k0, h1, h2.symm⟩
  obtain ⟨k0, h1, rfl⟩ := src
  have := hd.sy y hy1 k0 h1
  rw [this.ren]; exact this
 ·rw [e]
  exact Gst.renm hab hub
theorem drop_spec {G : Nat → Option (List V)} {d : D} {l : List Nat} {next : D → C} {X : C} (h : ghX (.drop l) d next = X) (hX : ∀ j, C.stuck j ≠ X) (hd : d.Ok) : ∃ d' : D, next d' = X ∧ d'.Ok ∧ Gst G d.st d'.st ∧ d'.n = d.n := by
 simp only [ghX] at h
 split at h
 rotate_left
 ·exact absurd h (hX _)
 rename_i hall
 simp only [List.all_eq_true, Bool.and_eq_true] at hall
 refine ⟨_, h, ?_⟩
 have blkOk : ∀ p, p ∈ d.bs.filter (fun p => !l.contains p.1) → d.bs.find? (fun x => x.1 == p.1) = some p → ∀ r, r ∈ p.2.rows → ∀ c, c ∈ r → okV (okU (d.us.filter fun b => !l.contains b)) c = true := fun p hp hf r hr c hc => by
  have := (hall p hp).2
  simp only [blkOkB, Bool.or_eq_true, List.contains_eq_mem, decide_eq_true_eq, List.all_eq_true] at this
  rcases this with h1 | h1
  ·exact dcell_okV (hd.sy p.1 h1 p.2 (by rw [D.st_b, hf]) r hr c hc) _
  ·have := h1 r hr c hc
   simpa using this
 have F : Forget d.st (stOf d.n (d.ts.filter fun p => okV (okU (d.us.filter fun b => !l.contains b)) (d.st.t p.1)) (d.bs.filter fun p => !l.contains p.1) (d.us.filter fun b => !l.contains b)) := by
  refine ⟨rfl, fun i => ?_, fun b => ?_, fun b hb => okU_top (uPin_le hb)⟩
  ·rw [stOf_t]
   cases hq : okV (okU (d.us.filter fun b => !l.contains b)) (d.st.t i) with
   | false => rw [find_filter_none (q := fun j => okV (okU (d.us.filter fun b => !l.contains b)) (d.st.t j)) hq]; exact .inl rfl
   | true =>
    rw [find_filter (q := fun j => okV (okU (d.us.filter fun b => !l.contains b)) (d.st.t j)) hq]
    exact .inr ⟨rfl, hq⟩
  ·rw [stOf_b]
   cases hq : (!l.contains b) with
   | false => rw [find_filter_none (q := fun j => !l.contains j) hq]; exact .inl rfl
   | true =>
    rw [find_filter (q := fun j => !l.contains j) hq]
    refine .inr ⟨rfl, fun k hk => ?_⟩
    rw [D.st_b] at hk
    split at hk
    ·rename_i p hp
     simp only [Option.some.injEq] at hk
     subst hk
     obtain ⟨h1, rfl⟩ := find_mem hp
     have hm : p ∈ d.bs.filter fun p => !l.contains p.1 := List.mem_filter.2 ⟨h1, hq⟩
     exact ⟨(hall p hm).1, blkOk p hm hp⟩
    ·simp at hk
 refine ⟨D.Ok.of_forget F fun b hb k hk => ?_, Gst.forget F, rfl⟩
 rcases F.b b with e | ⟨e, _⟩
 ·have : (none : Option Blk) = some k := e.symm.trans hk
  simp at this
 ·exact hd.sy b hb k (e.symm.trans hk)
theorem mapO_some_map {f : V → Option V} {g : V → V} : ∀ {l r : List V}, mapO f l = some r → (∀ c, c ∈ l → f c = some (g c)) → r = l.map g
 | [], r, h, _ => by simp [mapO] at h; exact h
 | c :: l, r, h, hg => by
  simp only [mapO, hg c (by simp)] at h
  split at h
  ·rename_i y r' h1 h2
   simp only [Option.some.injEq] at h h1
   subst h1 h
   rw [mapO_some_map h2 fun c hc => hg c (by simp [hc])]; rfl
  ·simp at h
theorem onlyCell_dcell {look : Nat → Option Blk} {c : V} (h : dcell c = true) : onlyCell (viewV look 1 c) = some c.strip := by
 cases c <;> simp_all [dcell, viewV, onlyCell, V.strip]
 obtain ⟨rfl, rfl⟩ := h
 simp [mapO]
theorem Ty.d_eq {α : Type} (t : Ty α) (x : α) : t.d x = (t.c x).map V.strip :=
 mapO_some_map (t.vw (fun _ => none) x) fun c hc => onlyCell_dcell (List.all_eq_true.1 (t.cd x) c hc)
theorem RepD.strip {lim : Nat → Nat} {w : World} {c : V} {v : Value} (h : RepD lim w c v) : RepD lim w c.strip v := by
 cases c <;> try exact h
 exact h.unown
theorem Ty.repD {α : Type} (t : Ty α) {lim : Nat → Nat} {w : World} {o : Bool} {z : Nat} {l : List α} {v : Value} (h : RepD lim w (.sl o z (l.map t.c)) v) : RepD lim w (.sl false z (l.map t.d)) v := by
 have e : l.map t.d = (l.map t.c).map (·.map V.strip) := by
  rw [List.map_map]; exact List.map_congr_left fun x _ => t.d_eq x
 have hlen : (l.map t.d).length = (l.map t.c).length := by simp
 generalize hg : l.map t.c = rows at h e hlen
 cases h with
 | sl _ _ _ B o cap vs h1 h2 h3 h4 =>
  have := RepD.sl (lim := lim) (w := w) false z (l.map t.d) B o cap vs (by rw [hlen]; exact h1) (fun r hr => by
    rw [e] at hr
    obtain ⟨r0, hr0, rfl⟩ := List.mem_map.1 hr
    simpa using h2 r0 hr0) (fun i c hc => by
    rw [e, map_strip_flatten, List.getElem?_map, Option.map_eq_some_iff] at hc
    obtain ⟨c0, k1, rfl⟩ := hc
    exact h3 i c0 k1) (fun i c hc => by
    rw [e, map_strip_flatten, List.getElem?_map, Option.map_eq_some_iff] at hc
    obtain ⟨c0, k1, rfl⟩ := hc
    exact (h4 i c0 k1).strip)
  rw [hlen] at this
  exact this
 | slNil _ _ a =>
  rw [e]; exact .slNil false z a
theorem shD_good {st : St} {b : Nat} {k : Blk} {α : Type} {t : Ty α} {l : List α} : ∀ (n : Nat) (c : V), (∀ e, e ∈ shE b k.rows n c → k.rows.take e.2.2 = l.map t.c) → ShGood st b k (shD b k.size (l.map t.d) n) c
 | 0, c, _ => fun γ γ' w bs' u' h1 h2 map v hr => by
  show Rep γ' w bs' u' .undef v
  exact .undef v
 | n + 1, c, he => fun γ γ' w bs' u' h1 h2 map v hr => by
  have ih := shD_good (st := st) (b := b) (k := k) (t := t) (l := l) n
  have sub : ∀ (cs : List V), (∀ e, e ∈ cs.flatMap (shE b k.rows n) → k.rows.take e.2.2 = l.map t.c) → ∀ (vs : List Value), vs.length = cs.length → (∀ (i : Nat) (c : V) (v : Value), cs[i]? = some c → vs[i]? = some v → Rep γ w st.b st.u c v) →
    ∀ (i : Nat) (c : V) (v : Value), (cs.map (shD b k.size (l.map t.d) n))[i]? = some c → vs[i]? = some v → Rep γ' w bs' u' c v := fun cs hcs vs hl hv i c v hc hx => by
   rw [List.getElem?_map, Option.map_eq_some_iff] at hc
   obtain ⟨c0, k1, rfl⟩ := hc
   exact ih c0 (fun e hee => hcs e (List.mem_flatMap.2 ⟨c0, List.mem_of_getElem? k1, hee⟩)) γ γ' w bs' u' h1 h2 map v (hv i c0 v k1 hx)
  cases c <;> simp only [shD]
  case ref b' off len =>
   split
   ·rename_i hb
    have hb' : b' = b := by simpa using hb
    subst hb'
    split
    ·have hl : k.rows.take len = l.map t.c := he (b', k.rows, len) (by simp [shE])
     have := map (.ref b' 0 len) v hr
     simp only [shV, if_true, List.drop_zero] at this
     rw [hl] at this
     cases this with
     | data h => exact .data (t.repD h)
    ·
     cases hr with
     | data h => cases h
     | ref => exact .deadRef _ _ _ _ h1 h2 rfl
     | refE => exact .deadRef _ _ _ _ h1 h2 rfl
     | refN => exact .deadRef _ _ _ _ h1 h2 rfl
     | deadRef _ _ _ _ _ _ h3 => exact .deadRef _ _ _ _ h1 h2 h3
   ·rename_i hb
    have := map (.ref b' off len) v hr
    simp only [shV] at this
    rwa [if_neg (by simpa using hb)] at this
  case fn f x y =>
   obtain ⟨fs, cs, rfl, l1, l2, p1, p2⟩ := hr.fn_inv
   simp only [shE] at he
   exact .fn f _ _ fs cs (by simpa using l1) (by simpa using l2) (sub x (fun e hee => he e (List.mem_append_left _ hee)) fs l1 p1) (sub y (fun e hee => he e (List.mem_append_right _ hee)) cs l2 p2)
  case agg cs =>
   obtain ⟨vs, rfl, l1, p1⟩ := hr.agg_inv
   exact .agg _ vs (by simpa using l1) (sub cs he vs l1 p1)
  case tup cs =>
   obtain ⟨vs, rfl, l1, p1⟩ := hr.tup_inv
   exact .tup _ vs (by simpa using l1) (sub cs he vs l1 p1)
  all_goals exact map _ v hr
theorem shD_dcell {b z : Nat} {rows : List (List V)} {n : Nat} {c : V} (h : dcell c = true) : shD b z rows (n + 1) c = c := by
 cases c <;> simp_all [dcell, shD]
theorem shD_own (b z : Nat) (rows : List (List V)) : ∀ (n : Nat) (c : V), (shD b z rows n c).isOwn = true → shD b z rows n c = c
 | 0, c, h => by simp [shD, V.isOwn] at h
 | n + 1, c, h => by
  cases c <;> simp only [shD] at h ⊢
  all_goals first | (simp [V.isOwn] at h; done) | skip
  case ref b' off len =>
   split at h
   ·split at h <;> simp [V.isOwn] at h
   ·simp [V.isOwn] at h
theorem shD_okV {u u' : Nat → Bool} (h : ∀ b, u b = true → u' b = true) (b z : Nat) (rows : List (List V)) : ∀ (n : Nat) (c : V), okV u c = true → okV u' (shD b z rows n c) = true
 | 0, c, _ => rfl
 | n + 1, c, hc => by
  have ih := shD_okV h b z rows n
  have lst : ∀ l : List V, okL u l = true → okL u' (l.map (shD b z rows n)) = true := fun l hl => okL_all.2 fun c hc => by
   obtain ⟨c0, h0, rfl⟩ := List.mem_map.1 hc
   exact ih c0 (okL_all.1 hl c0 h0)
  cases c <;> simp only [shD, okV, Bool.and_eq_true] at hc ⊢
  case ref b' off len =>
   split
   ·split
    ·rfl
    ·exact h _ hc
   ·exact h _ hc
  case ptr => exact h _ hc
  case mp => exact h _ hc
  case fn f x y => exact ⟨lst x hc.1, lst y hc.2⟩
  case agg l => exact lst l hc
  case tup l => exact lst l hc
theorem share_spec {G : Nat → Option (List V)} {d : D} {v : VwW} {vn : Nat} {next : D → C} {X : C} (h : ghX (.share v vn) d next = X) (hX : ∀ j, C.stuck j ≠ X) (he : ghE (.share v vn) d = List.replicate (vn + 1) v.eqn) (hd : d.Ok) :
  ∃ d' : D, next d' = X ∧ d'.Ok ∧ Gst G d.st d'.st ∧ d'.n = d.n := by
 simp only [ghX] at h
 split at h
 rotate_left
 ·exact absurd h (hX _)
 rename_i k hk
 split at h
 rotate_left
 ·exact absurd h (hX _)
 rename_i hdat
 simp only [nrmT_eq, nrmB_eq] at h
 refine ⟨_, h, ?_⟩
 simp only [ghE, hk] at he
 have hdata : DataRows k.rows := by
  simp only [Bool.or_eq_true, List.contains_eq_mem, decide_eq_true_eq, List.all_eq_true] at hdat
  rcases hdat with h1 | h1
  ·exact hd.sy v.b h1 k hk
  ·exact fun r hr c hc => h1 r hr c hc
 let g := shD v.b k.size (v.l.map v.ty.d) 6

 have rowsE : ∀ (n : Nat) (c : V) (e : Nat × List (List V) × Nat), e ∈ shE v.b k.rows n c → e.2.1 = k.rows := by
  intro n
  induction n with
  | zero => intro c e h; simp [shE] at h
  | succ n ih =>
   intro c e h
   have fl : ∀ l : List V, e ∈ l.flatMap (shE v.b k.rows n) → e.2.1 = k.rows := fun l hl => by
    obtain ⟨x, _, hx⟩ := List.mem_flatMap.1 hl
    exact ih x e hx
   cases c <;> simp only [shE, List.not_mem_nil] at h
   case ref b' off len =>
    split at h
    ·split at h
     ·simp only [List.mem_singleton] at h; subst h; rfl
     ·simp at h
    ·simp at h
   case fn f x y =>
    rcases List.mem_append.1 h with h | h
    ·exact fl _ h
    ·exact fl _ h
   case agg l => exact fl _ h
   case tup l => exact fl _ h
 let E := (d.ts.flatMap fun p => shE v.b k.rows 6 p.2) ++ d.bs.flatMap fun p => match p.1 == v.b || d.sy.contains p.1 with
   | true => []
   | false => p.2.rows.flatMap fun r => r.flatMap (shE v.b k.rows 6)
 have hE : E = List.replicate (vn + 1) v.eqn := he
 have allRows : ∀ e, e ∈ E → e.2.1 = k.rows := fun e hm => by
  rcases List.mem_append.1 hm with hm | hm
  ·obtain ⟨p, _, hx⟩ := List.mem_flatMap.1 hm
   exact rowsE 6 _ e hx
  ·obtain ⟨p, _, hx⟩ := List.mem_flatMap.1 hm
   split at hx
   ·simp at hx
   ·obtain ⟨r, _, hx⟩ := List.mem_flatMap.1 hx
    obtain ⟨c, _, hx⟩ := List.mem_flatMap.1 hx
    exact rowsE 6 _ e hx
 have hlens : ∀ e, e ∈ E → k.rows.take e.2.2 = v.l.map v.ty.c := fun e hm => by
  have h1 := allRows e hm
  rw [hE] at hm
  obtain rfl := (List.mem_replicate.1 hm).2
  rw [← h1]; exact v.h
 have good : ∀ c, (∀ e, e ∈ shE v.b k.rows 6 c → e ∈ E) → ShGood d.st v.b k g c := fun c hc => shD_good (t := v.ty) (l := v.l) 6 c fun e hm => hlens e (hc e hm)
 have goodData : ∀ c, dcell c = true → ShGood d.st v.b k g c := fun c hc γ γ' w bs' u' h1 h2 map x hr => by
  show Rep γ' w bs' u' (shD v.b k.size (v.l.map v.ty.d) (5 + 1) c) x
  rw [shD_dcell hc]
  have := map c x hr
  cases c <;> first | exact this | simp [dcell] at hc
 have e : (D.st ⟨d.n, d.ts.map (fun p => (p.1, shD v.b k.size (v.l.map v.ty.d) 6 p.2)), shareBs d v k, v.b :: d.us, d.sy⟩) = d.st.shr v.b g := by
  unfold D.st St.shr
  simp only [stOf, St.mk.injEq, true_and]
  refine ⟨funext fun i => ?_, funext fun c => ?_, funext fun c => okU_cons c⟩
  ·rw [find_map_id (fun p => shD v.b k.size (v.l.map v.ty.d) 6 p.2)]
   cases d.ts.find? (fun x => x.1 == i) <;> rfl
  ·unfold shareBs
   rw [find_map_id]
   by_cases hc : c = v.b
   ·subst hc
    rw [if_pos rfl, find_filter_none (q := fun j => !(j == v.b)) (by simp)]; rfl
   ·rw [if_neg hc, find_filter (q := fun j => !(j == v.b)) (by simpa using hc)]
    cases hf : d.bs.find? (fun x => x.1 == c) with
    | none => rfl
    | some p =>
     simp only [Option.map_some, Option.some.injEq]
     split
     ·rename_i hs
      have hdr : DataRows p.2.rows := hd.sy p.1 (by simpa using hs) p.2 (by rw [D.st_b, (find_mem hf).2, hf])
      have : p.2.rows.map (·.map g) = p.2.rows := by
       conv => rhs; rw [← List.map_id p.2.rows]
       refine List.map_congr_left fun r hr => ?_
       show r.map g = r
       conv => rhs; rw [← List.map_id r]
       exact List.map_congr_left fun c hc => shD_dcell (hdr r hr c hc)
      show p.2 = { p.2 with rows := p.2.rows.map (·.map g) }
      rw [this]
     ·rfl
 have gs := Gst.shr (G := G) (st := d.st) hk hdata (g := g) (fun i => by
   rw [D.st_t]
   split
   ·rename_i p hp
    exact good _ fun e hm => List.mem_append_left _ (List.mem_flatMap.2 ⟨p, (find_mem hp).1, hm⟩)
   ·exact fun γ γ' w bs' u' _ _ _ v _ => .undef v)
  (fun x q hx hq r hr c hc => by
   rw [D.st_b] at hq
   split at hq
   ·rename_i p hp
    simp only [Option.some.injEq] at hq
    subst hq
    obtain ⟨hp1, rfl⟩ := find_mem hp
    cases hs : d.sy.contains p.1 with
    | true => exact goodData c (hd.sy p.1 (by simpa using hs) p.2 (by rw [D.st_b, hp]) r hr c hc)
    | false =>
     refine good c fun e hm => List.mem_append_right _ (List.mem_flatMap.2 ⟨p, hp1, ?_⟩)
     have : (p.1 == v.b) = false := by simpa using hx
     rw [this, hs]
     exact List.mem_flatMap.2 ⟨r, hr, List.mem_flatMap.2 ⟨c, hc, hm⟩⟩
   ·simp at hq) (shD_own _ _ _ 6)
 have mu : ∀ c, okU d.us c = true → okU (v.b :: d.us) c = true := fun c hc => by rw [okU_cons]; split; rfl; exact hc
 refine ⟨⟨fun i => ?_, fun {c q} hq => ?_, fun x hx q hq => ?_⟩, by rw [e]; exact gs, rfl⟩
 ·rw [e]; exact shD_okV mu _ _ _ 6 _ (hd.tmp i)
 ·rw [e] at hq
  simp only [St.shr] at hq
  split at hq
  ·simp at hq
  obtain ⟨q0, h0, rfl⟩ := Option.map_eq_some_iff.1 hq
  obtain ⟨h1, h2⟩ := hd.blk h0
  refine ⟨mu _ h1, fun r hr c hc => ?_⟩
  obtain ⟨r0, hr0, rfl⟩ := List.mem_map.1 hr
  obtain ⟨c0, hc0, rfl⟩ := List.mem_map.1 hc
  exact shD_okV mu _ _ _ 6 _ (h2 r0 hr0 c0 hc0)
 ·rw [e] at hq
  simp only [St.shr] at hq
  split at hq
  ·simp at hq
  obtain ⟨q0, h0, rfl⟩ := Option.map_eq_some_iff.1 hq
  have hdr := hd.sy x hx q0 h0
  intro r hr c hc
  obtain ⟨r0, hr0, rfl⟩ := List.mem_map.1 hr
  obtain ⟨c0, hc0, rfl⟩ := List.mem_map.1 hc
  have := hdr r0 hr0 c0 hc0
  rw [show g c0 = c0 from shD_dcell this]; exact this
theorem virtC_spec {G : Nat → Option (List V)} {d : D} {b x j size : Nat} {next : D → C} {X : C} (h : ghX (.virtC b x j size) d next = X) (hX : ∀ j, C.stuck j ≠ X) (hd : d.Ok) : ∃ d' : D, next d' = X ∧ d'.Ok ∧ Gst G d.st d'.st ∧ d'.n = d.n := by
 simp only [ghX] at h
 split at h
 rotate_left
 ·exact absurd h (hX _)
 rename_i k hk hub hsy
 simp only [Bool.or_eq_false_iff, Bool.not_eq_false', decide_eq_true_eq] at hub
 obtain ⟨hub, hM⟩ := hub
 split at h
 rotate_left
 ·exact absurd h (hX _)
 rename_i r rs hrows
 split at h
 rotate_left
 ·exact absurd h (hX _)
 rename_i hcell
 refine ⟨_, h, ?_⟩
 have hxb : x ≠ b := fun e => by subst e; have := (hd.blk hk).1; rw [hub] at this; simp at this
 have hsx : ¬ x ∈ d.sy := by simpa using hsy
 let d' : D := { d with bs := (b, ⟨size, true, []⟩) :: (x, setCell k j (.ref b 0 0)) :: d.bs.filter (fun p => !(p.1 == x)), us := b :: d.us }
 have bb : d'.st.b b = some ⟨size, true, []⟩ := by simp [D.st_b, d']
 have bx : d'.st.b x = some (setCell k j (.ref b 0 0)) := by
  rw [D.st_b]
  simp only [d']
  rw [List.find?_cons_of_neg (by simpa using fun e => hxb e.symm), List.find?_cons_of_pos (by simp)]
 have bo : ∀ c, c ≠ b → c ≠ x → d'.st.b c = d.st.b c := fun c h1 h2 => by
  rw [D.st_b, D.st_b]
  simp only [d']
  rw [List.find?_cons_of_neg (by simpa using fun e => h1 e.symm), List.find?_cons_of_neg (by simpa using fun e => h2 e.symm), find_filter (q := fun j => !(j == x)) (by simpa using h2)]
 have hbn : d.st.b b = none := by
  cases hb : d.st.b b with
  | none => rfl
  | some q => have := (hd.blk hb).1; rw [hub] at this; simp at this
 have hset : (setCell k j (.ref b 0 0)).rows = r.set j (.ref b 0 0) :: rs := by simp [setCell, hrows]
 have mu : ∀ c, okU d.us c = true → okU (b :: d.us) c = true := fun c hc => by rw [okU_cons]; split; rfl; exact hc
 have g2 : Gst G (d.st.setB b ⟨size, true, []⟩) d'.st := by
  refine Gst.cells rfl (funext fun c => ?_) (fun i => Wk.refl _) fun c => ?_
  ·exact okU_cons c
  ·by_cases hcb : c = b
   ·subst hcb
    refine .inr ⟨⟨size, true, []⟩, ⟨size, true, []⟩, by simp [St.setB], bb, rfl, rfl, rfl, fun i r' h => by simp at h⟩
   ·by_cases hcx : c = x
    ·subst hcx
     refine .inr ⟨k, setCell k j (.ref b 0 0), by simp [St.setB, hcb, hk], bx, rfl, rfl, by rw [hset, hrows]; rfl, fun i r' hr' => ?_⟩
     rw [hset] at hr'
     rw [hrows]
     cases i with
     | zero =>
      simp only [List.getElem?_cons_zero, Option.some.injEq] at hr'
      subst hr'
      refine ⟨r, rfl, by simp, fun q c' hc' => ?_⟩
      by_cases hq : q = j
      ·subst hq
       have hlt : q < r.length := (List.getElem?_eq_some_iff.1 hcell).1
       rw [List.getElem?_set_self hlt] at hc'
       simp only [Option.some.injEq] at hc'
       subst hc'
       refine ⟨.nilsl, hcell, fun γ w v hv => ?_, fun ho => by simp [V.isOwn] at ho⟩
       have := hv.nilsl_inv; subst this
       exact .refN b 0 ⟨size, true, []⟩ bb hM rfl
      ·rw [List.getElem?_set_ne (fun e => hq e.symm)] at hc'
       exact ⟨c', hc', Wk.refl _, fun _ => .inl rfl⟩
     | succ i =>
      simp only [List.getElem?_cons_succ] at hr'
      exact ⟨r', by simpa using hr', rfl, fun q c' hc' => ⟨c', hc', Wk.refl _, fun _ => .inl rfl⟩⟩
    ·cases hc : d.st.b c with
     | none => exact .inl ⟨by simp [St.setB, hcb, hc], by rw [bo c hcb hcx, hc]⟩
     | some q =>
      exact .inr ⟨q, q, by simp [St.setB, hcb, hc], by rw [bo c hcb hcx, hc], rfl, rfl, rfl, fun i r' hr' => ⟨r', hr', rfl, fun p c' hc' => ⟨c', hc', Wk.refl _, fun _ => .inl rfl⟩⟩⟩
 refine ⟨⟨fun i => okV_mono mu _ (hd.tmp i), fun {c q} hq => ?_, fun c hc q hq => ?_⟩, (Gst.addB size hub).trans g2, rfl⟩
 ·have hq' : d'.st.b c = some q := hq
  by_cases hcb : c = b
  ·subst hcb
   rw [bb] at hq'; simp only [Option.some.injEq] at hq'; subst hq'
   exact ⟨by simp [okU], fun r hr => by simp at hr⟩
  ·by_cases hcx : c = x
   ·subst hcx
    rw [bx] at hq'; simp only [Option.some.injEq] at hq'; subst hq'
    obtain ⟨h1, h2⟩ := hd.blk hk
    refine ⟨mu _ h1, fun r' hr' c' hc' => ?_⟩
    rw [hset] at hr'
    simp only [List.mem_cons] at hr'
    rcases hr' with rfl | hr'
    ·rcases List.mem_or_eq_of_mem_set hc' with hc' | rfl
     ·exact okV_mono mu _ (h2 r (by simp [hrows]) c' hc')
     ·simp [okV, okU]
    ·exact okV_mono mu _ (h2 r' (by simp [hrows, hr']) c' hc')
   ·rw [bo c hcb hcx] at hq'
    obtain ⟨h1, h2⟩ := hd.blk hq'
    exact ⟨mu _ h1, fun r hr c hc => okV_mono mu _ (h2 r hr c hc)⟩
 ·have hq' : d'.st.b c = some q := hq
  by_cases hcb : c = b
  ·subst hcb
   rw [bb] at hq'; simp only [Option.some.injEq] at hq'; subst hq'
   intro r hr; simp at hr
  ·have hcx : c ≠ x := fun e => hsx (e ▸ hc)
   rw [bo c hcb hcx] at hq'
   exact hd.sy c hc q hq'
theorem coeV_ok {u : Nat → Bool} : ∀ (n : Nat) (e c : V), okV u c = true → okV u (coeV n e c) = true
 | 0, _, _, h => h
 | n + 1, e, c, h => by
  have lst : ∀ (es cs : List V), okL u cs = true → okL u (coeL (coeV n) es cs) = true := by
   intro es cs
   induction cs generalizing es with
   | nil => intro h; cases es <;> exact h
   | cons c cs ih =>
    intro h
    cases es with
    | nil => exact h
    | cons e es =>
     simp only [coeL, okL, Bool.and_eq_true] at h ⊢
     exact ⟨coeV_ok n e c h.1, ih es h.2⟩
  cases c <;> simp only [coeV] <;> try exact h
  case nilsl => split <;> rfl
  case sl => split <;> rfl
  case agg cs =>
   split
   ·simp only [okV] at h ⊢; exact lst _ _ h
   ·exact h
  case tup cs =>
   split
   ·simp only [okV] at h ⊢; exact lst _ _ h
   ·exact h
theorem coeR_ok {u : Nat → Bool} : ∀ (es cs : List (List V)), (∀ r, r ∈ cs → ∀ c, c ∈ r → okV u c = true) → ∀ r, r ∈ coeR es cs → ∀ c, c ∈ r → okV u c = true
 | [], cs, h => by cases cs <;> exact h
 | _ :: _, [], _ => fun r hr => by simp [coeR] at hr
 | e :: es, c :: cs, h => fun r hr x hx => by
  simp only [coeR, List.mem_cons] at hr
  rcases hr with rfl | hr
  ·obtain ⟨i, hi⟩ := List.getElem?_of_mem hx
   obtain ⟨y, h1, h2⟩ := coeL_get _ _ _ _ _ hi
   have hy := h c (by simp) y (List.mem_of_getElem? h1)
   rcases h2 with rfl | ⟨e', rfl⟩
   ·exact hy
   ·exact coeV_ok 8 e' y hy
  ·exact coeR_ok es cs (fun r hr => h r (by simp [hr])) r hr x hx
theorem tell_spec {G : Nat → Option (List V)} {d : D} {b : Nat} {es : List (List V)} {next : D → C} {X : C} (h : ghX (.tell b es) d next = X) (hX : ∀ j, C.stuck j ≠ X) (hd : d.Ok) : ∃ d' : D, next d' = X ∧ d'.Ok ∧ Gst G d.st d'.st ∧ d'.n = d.n := by
 simp only [ghX] at h
 split at h
 rotate_left
 ·exact absurd h (hX _)
 rename_i k hk hsy
 simp only [nrmB_eq] at h
 have hsb : ¬ b ∈ d.sy := by simpa using hsy
 let d' : D := { d with bs := (b, ⟨k.size, k.excl, coeR es k.rows⟩) :: d.bs.filter (fun p => !(p.1 == b)) }
 have bb : d'.st.b b = some ⟨k.size, k.excl, coeR es k.rows⟩ := by simp [D.st_b, d']
 have bo : ∀ c, c ≠ b → d'.st.b c = d.st.b c := fun c h1 => by
  rw [D.st_b, D.st_b]
  simp only [d']
  rw [List.find?_cons_of_neg (by simpa using fun e => h1 e.symm), find_filter (q := fun j => !(j == b)) (by simpa using h1)]
 refine ⟨d', h, ⟨fun i => hd.tmp i, fun {c q} hq => ?_, fun c hc q hq => ?_⟩, Gst.cells rfl rfl (fun i => Wk.refl _) fun c => ?_, rfl⟩
 ·by_cases hcb : c = b
  ·subst hcb
   rw [bb] at hq; simp only [Option.some.injEq] at hq; subst hq
   obtain ⟨h1, h2⟩ := hd.blk hk
   exact ⟨h1, coeR_ok _ _ h2⟩
  ·rw [bo c hcb] at hq
   exact hd.blk hq
 ·have hcb : c ≠ b := fun e => hsb (e ▸ hc)
  rw [bo c hcb] at hq
  exact hd.sy c hc q hq
 ·by_cases hcb : c = b
  ·subst hcb
   exact .inr ⟨k, _, hk, bb, rfl, rfl, coeR_rel _ _⟩
  ·cases hc : d.st.b c with
   | none => exact .inl ⟨rfl, by rw [bo c hcb, hc]⟩
   | some q => exact .inr ⟨q, q, rfl, by rw [bo c hcb, hc], rfl, rfl, RowsRel.same (fun c => CoeR.same c) _⟩
theorem virt_spec {G : Nat → Option (List V)} {d : D} {b t size : Nat} {next : D → C} {X : C} (h : ghX (.virt b t size) d next = X) (hX : ∀ j, C.stuck j ≠ X) (hd : d.Ok) : ∃ d' : D, next d' = X ∧ d'.Ok ∧ Gst G d.st d'.st ∧ d'.n = d.n := by
 simp only [ghX] at h
 split at h
 rotate_left
 ·exact absurd h (hX _)
 rename_i ht hu
 simp only [Bool.or_eq_false_iff, Bool.not_eq_false', decide_eq_true_eq] at hu
 obtain ⟨hu, hM⟩ := hu
 have mu : ∀ c, okU d.us c = true → okU (b :: d.us) c = true := fun c hc => by rw [okU_cons]; split; rfl; exact hc
 have e : (D.st { d with ts := (t, .ref b 0 0) :: d.ts.filter (fun x => !(x.1 == t)), bs := (b, ⟨size, true, []⟩) :: d.bs, us := b :: d.us }) = (d.st.setB b ⟨size, true, []⟩).setT t (.ref b 0 0) := by
  unfold D.st St.setB St.setT
  simp only [stOf, St.mk.injEq, true_and]
  refine ⟨funext fun i => ?_, funext fun i => ?_, funext fun i => ?_⟩
  ·by_cases hi : i = t
   ·subst hi; simp
   ·rw [if_neg hi, List.find?_cons_of_neg (by simpa using fun e => hi e.symm), find_filter (q := fun j => !(j == t)) (by simpa using hi)]
  ·by_cases hi : i = b
   ·subst hi; simp
   ·rw [if_neg hi, List.find?_cons_of_neg (by simpa using fun e => hi e.symm)]
  ·exact okU_cons i
 refine ⟨_, h, ⟨fun i => ?_, fun {c q} hq => ?_, fun c hc q hq => ?_⟩, by rw [e]; exact Gst.virtT size hM hu ht, rfl⟩
 ·rw [e]
  show okV _ (if i = t then _ else d.st.t i) = true
  split
  ·simp [okV, okU]
  ·exact okV_mono mu _ (hd.tmp i)
 ·rw [e] at hq
  have hq' : (if c = b then some (⟨size, true, []⟩ : Blk) else d.st.b c) = some q := hq
  split at hq'
  ·rename_i hcb
   simp only [Option.some.injEq] at hq'
   subst hq'
   exact ⟨by simp [okU, hcb], fun r hr => by simp at hr⟩
  ·obtain ⟨h1, h2⟩ := hd.blk hq'
   exact ⟨mu _ h1, fun r hr c hc => okV_mono mu _ (h2 r hr c hc)⟩
 ·rw [e] at hq
  have hq' : (if c = b then some (⟨size, true, []⟩ : Blk) else d.st.b c) = some q := hq
  split at hq'
  ·simp only [Option.some.injEq] at hq'
   subst hq'
   intro r hr; simp at hr
  ·exact hd.sy c hc q hq'
theorem map_id_of {α : Type} {f : α → α} {l : List α} (h : ∀ x, x ∈ l → f x = x) : l.map f = l := by
 have : l.map f = l.map id := List.map_congr_left fun x hx => h x hx
 rw [this, List.map_id]
theorem lnD_id {b m : Nat} : ∀ (n : Nat) (c : V), (∀ e, e ∈ shE b [] n c → e.2.2 = m) → lnD b m n c = c
 | 0, _, _ => rfl
 | n + 1, c, h => by
  cases c <;> simp only [lnD] <;> try rfl
  case ref b' off len =>
   simp only [shE] at h
   split
   ·rename_i hb
    rw [hb] at h
    cases off with
    | zero => have := h (b, [], len) (by simp); simp only at this ⊢; rw [this]
    | succ o => rfl
   ·rfl
  case fn f x y =>
   simp only [shE] at h
   rw [map_id_of fun c hc => lnD_id n c fun e he => h e (List.mem_append_left _ (List.mem_flatMap.2 ⟨c, hc, he⟩)), map_id_of fun c hc => lnD_id n c fun e he => h e (List.mem_append_right _ (List.mem_flatMap.2 ⟨c, hc, he⟩))]
  case agg l =>
   simp only [shE] at h
   rw [map_id_of fun c hc => lnD_id n c fun e he => h e (List.mem_flatMap.2 ⟨c, hc, he⟩)]
  case tup l =>
   simp only [shE] at h
   rw [map_id_of fun c hc => lnD_id n c fun e he => h e (List.mem_flatMap.2 ⟨c, hc, he⟩)]
theorem len_spec {G : Nat → Option (List V)} {d : D} {b m : Nat} {ns : List Nat} {hn : ∀ n, n ∈ ns → n = m} {next : D → C} {X : C} (h : ghX (.len b m ns hn) d next = X) (he : ghE (.len b m ns hn) d = ns.map fun n => (b, [], n)) (hd : d.Ok) :
  ∃ d' : D, next d' = X ∧ d'.Ok ∧ Gst G d.st d'.st ∧ d'.n = d.n := by
 simp only [ghX, nrmT_eq, nrmB_eq] at h
 have key : ∀ e, e ∈ ghE (.len b m ns hn) d → e.2.2 = m := fun e hm => by
  rw [he] at hm
  obtain ⟨n, h1, rfl⟩ := List.mem_map.1 hm
  exact hn n h1
 simp only [ghE] at key
 have e1 : (d.ts.map fun p => (p.1, lnD b m 6 p.2)) = d.ts := map_id_of fun p hp => by
  rw [lnD_id 6 p.2 fun e he => key e (List.mem_append_left _ (List.mem_flatMap.2 ⟨p, hp, he⟩))]
 have e2 : d.bs.map (lnB d.sy b m) = d.bs := map_id_of fun p hp => by
  have hk : ∀ e, e ∈ lnEB d.sy b p → e.2.2 = m := fun e he => key e (List.mem_append_right _ (List.mem_flatMap.2 ⟨p, hp, he⟩))
  unfold lnEB at hk
  unfold lnB
  split
  ·rfl
  ·rename_i hs
   rw [hs] at hk
   have : p.2.rows.map (·.map (lnD b m 6)) = p.2.rows := map_id_of fun r hr => map_id_of fun c hc => lnD_id 6 c fun e he => hk e (List.mem_flatMap.2 ⟨r, hr, List.mem_flatMap.2 ⟨c, hc, he⟩⟩)
   rw [this]
 rw [e1, e2] at h
 exact ⟨d, h, hd, fun γ _ w hs => ⟨γ, hs, .refl γ w, .refl hs.u⟩, rfl⟩
theorem cutV_own (b k : Nat) : ∀ (n : Nat) (c : V), (cutV b k n c).isOwn = true → cutV b k n c = c
 | 0, c, h => by simp [cutV, V.isOwn] at h
 | n + 1, c, h => by
  cases c <;> simp only [cutV] at h ⊢
  case ref b' off len =>
   split at h
   ·split at h <;> simp [V.isOwn] at h
   ·simp [V.isOwn] at h
  case ptr b' i o => split at h <;> simp [V.isOwn] at h
  case mp => split at h <;> simp [V.isOwn] at h
  all_goals simp [V.isOwn] at h
theorem cutV_okV {u : Nat → Bool} (b k : Nat) : ∀ (n : Nat) (c : V), okV u c = true → okV u (cutV b k n c) = true
 | 0, c, _ => rfl
 | n + 1, c, h => by
  have lst : ∀ l : List V, okL u l = true → okL u (l.map (cutV b k n)) = true := fun l hl => okL_all.2 fun c hc => by
   obtain ⟨c0, h0, rfl⟩ := List.mem_map.1 hc
   exact cutV_okV b k n c0 (okL_all.1 hl c0 h0)
  cases c <;> simp only [cutV]
  case ref b' off len =>
   split
   ·split
    ·exact h
    ·rfl
   ·exact h
  case ptr b' i o => split; rfl; exact h
  case mp => split; rfl; exact h
  case fn f x y =>
   simp only [okV, Bool.and_eq_true] at h ⊢
   exact ⟨lst _ h.1, lst _ h.2⟩
  case agg l => simp only [okV] at h ⊢; exact lst _ h
  case tup l => simp only [okV] at h ⊢; exact lst _ h
  all_goals exact h
theorem cutX_spec {G : Nat → Option (List V)} {d : D} {b k : Nat} {kb : Blk} {α : Type} {ty : Ty α} {l : List α} {next : D → C} {X : C} (h : cutX d b kb ((l.drop k).map ty.c) k next = X) (hd : d.Ok) (hb : d.st.b b = some kb) (hlow : b < 1000000) (hzq : kb.size < MAPS)
  (hs : ∀ y, ty.c y = ty.d y) (hrows : kb.rows = l.map ty.c) (hk : k ≤ l.length) : ∃ d' : D, next d' = X ∧ d'.Ok ∧ Gst G d.st d'.st ∧ d'.n = d.n := by
 simp only [cutX, nrmT_eq, nrmB_eq] at h
 refine ⟨_, h, ?_⟩
 let g : V → V := cutV b k 6
 let d' : D := ⟨d.n, d.ts.map fun p => (p.1, cutV b k 6 p.2), (b, ⟨kb.size, kb.excl, (l.drop k).map ty.c⟩) :: (d.bs.filter fun p => !(p.1 == b)).map (cutB' d.sy b k), d.us, b :: d.sy⟩
 have hown : ∀ r, r ∈ kb.rows → ∀ c, c ∈ r → dcell c = true ∧ c.isOwn = false := fun r hr c hc => by
  rw [hrows] at hr
  refine ⟨ty.data l r hr c hc, ?_⟩
  obtain ⟨y, _, rfl⟩ := List.mem_map.1 hr
  rw [hs y, ← ty.st y] at hc
  obtain ⟨c0, _, rfl⟩ := List.mem_map.1 hc
  exact strip_own c0
 have gt := Gst.cut (G := G) (n := 6) hb hzq (by rw [hrows]; simpa using hk) hlow hown (g := g) (fun i => rfl) (fun x p hx hp r hr c hc => .inl rfl) (fun c hc => cutV_own b k 6 c hc)
 have hbt : ∀ q, d'.st.b q = if q = b then some ⟨kb.size, kb.excl, (l.drop k).map ty.c⟩ else (d.bs.find? (fun p => p.1 == q)).map fun p => (cutB' d.sy b k p).2 := fun q => by
  show (match ((b, (⟨kb.size, kb.excl, (l.drop k).map ty.c⟩ : Blk)) :: (d.bs.filter fun p => !(p.1 == b)).map (cutB' d.sy b k)).find? (fun p => p.1 == q) with | some p => some p.2 | none => none) = _
  by_cases h1 : q = b
  ·subst h1; simp
  ·rw [if_neg h1, List.find?_cons_of_neg (by simpa using fun e => h1 e.symm)]
   have e1 : cutB' d.sy b k = fun p : Nat × Blk => (p.1, (cutB' d.sy b k p).2) := funext fun p => by
    unfold cutB'; split <;> rfl
   rw [e1, find_map_id (fun p => (cutB' d.sy b k p).2), find_filter (q := fun i => !(i == b)) (by simpa using h1)]
   cases d.bs.find? (fun p => p.1 == q) <;> rfl
 have e : Gst G (d.st.cut b k kb g) d'.st := by
  refine Gst.cells rfl rfl (fun i => ?_) fun q => ?_
  ·have : d'.st.t i = (d.st.cut b k kb g).t i := by
    show (match (d.ts.map fun p => (p.1, cutV b k 6 p.2)).find? (fun p => p.1 == i) with | some p => p.2 | none => .undef) = cutV b k 6 (match d.ts.find? (fun p => p.1 == i) with | some p => p.2 | none => .undef)
    rw [find_map_id (fun p => cutV b k 6 p.2)]
    cases d.ts.find? (fun p => p.1 == i) <;> rfl
   rw [this]; exact Wk.refl _
  ·rw [hbt]
   show ((if q = b then some ({ kb with rows := kb.rows.drop k } : Blk) else (d.st.b q).map fun x => ({ x with rows := x.rows.map (·.map g) } : Blk)) = none ∧ _) ∨ _
   by_cases h1 : q = b
   ·right
    refine ⟨{ kb with rows := kb.rows.drop k }, ⟨kb.size, kb.excl, (l.drop k).map ty.c⟩, by simp [St.cut, h1], by simp [h1], rfl, rfl, ?_⟩
    rw [hrows, ← List.map_drop]
    exact RowsRel.same (fun c => CoeR.same c) _
   ·rw [if_neg h1]
    have eb : (d.st.cut b k kb g).b q = (d.st.b q).map fun x => ({ x with rows := x.rows.map (·.map g) } : Blk) := by simp [St.cut, h1]
    rw [D.st_b]
    cases hf : d.bs.find? (fun p => p.1 == q) with
    | none => left; simp [h1]
    | some p =>
     right
     have hq : d.st.b q = some p.2 := by rw [D.st_b, hf]
     refine ⟨{ p.2 with rows := p.2.rows.map (·.map g) }, (cutB' d.sy b k p).2, by rw [eb, hq]; rfl, by simp [h1], ?_⟩
     unfold cutB'
     split
     ·rename_i hsy
      refine ⟨rfl, rfl, ?_⟩
      have hdat := hd.sy p.1 (by simpa using hsy) p.2 (by rw [(find_mem hf).2]; exact hq)
      have : p.2.rows.map (·.map g) = p.2.rows := by
       refine map_id_of fun r hr => map_id_of fun c hc => cutV_dcell (hdat r hr c hc)
      rw [this]
      exact RowsRel.same (fun c => CoeR.same c) _
     ·exact ⟨rfl, rfl, RowsRel.same (fun c => CoeR.same c) _⟩
 refine ⟨⟨fun i => ?_, fun {q p} hq => ?_, fun q hq p hp => ?_⟩, gt.trans e, rfl⟩
 ·show okV (okU d.us) (match (d.ts.map fun p => (p.1, cutV b k 6 p.2)).find? (fun p => p.1 == i) with | some p => p.2 | none => .undef) = true
  rw [find_map_id (fun p => cutV b k 6 p.2)]
  have := hd.tmp i
  rw [D.st_t] at this
  cases hf : d.ts.find? (fun p => p.1 == i) with
  | none => rfl
  | some p => rw [hf] at this; exact cutV_okV b k 6 _ this
 ·have hq' : d'.st.b q = some p := hq
  rw [hbt] at hq'
  by_cases h1 : q = b
  ·rw [if_pos h1] at hq'
   simp only [Option.some.injEq] at hq'; subst hq'
   refine ⟨by rw [h1]; exact (hd.blk hb).1, fun r hr c hc => dcell_okV (ty.data _ r hr c hc) _⟩
  ·rw [if_neg h1] at hq'
   obtain ⟨x, hx, rfl⟩ := Option.map_eq_some_iff.1 hq'
   have hq2 : d.st.b q = some x.2 := by rw [D.st_b, hx]
   obtain ⟨o1, o2⟩ := hd.blk hq2
   refine ⟨o1, fun r hr c hc => ?_⟩
   unfold cutB' at hr
   split at hr
   ·exact o2 r hr c hc
   ·obtain ⟨r0, hr0, rfl⟩ := List.mem_map.1 hr
    obtain ⟨c0, hc0, rfl⟩ := List.mem_map.1 hc
    exact cutV_okV b k 6 _ (o2 r0 hr0 c0 hc0)
 ·have hp' : d'.st.b q = some p := hp
  rw [hbt] at hp'
  by_cases h1 : q = b
  ·rw [if_pos h1] at hp'
   simp only [Option.some.injEq] at hp'; subst hp'
   exact ty.data _
  ·rw [if_neg h1] at hp'
   obtain ⟨x, hx, rfl⟩ := Option.map_eq_some_iff.1 hp'
   have hq2 : d.st.b q = some x.2 := by rw [D.st_b, hx]
   have hqs : q ∈ d.sy := by
    rcases List.mem_cons.1 hq with h | h
    ·exact absurd h h1
    ·exact h
   have : d.sy.contains x.1 = true := by rw [(find_mem hx).2]; simpa using hqs
   unfold cutB'
   rw [this]
   exact hd.sy q hqs x.2 hq2
theorem takeD_spec {G : Nat → Option (List V)} {d : D} {b dd z col j : Nat} {kb : Blk} {α β : Type} {ty : Ty α} {ty2 : Ty β} {l : List α} {o : α → List β} {x : α} (hd : d.Ok) (hb : d.st.b b = some kb) (hu : okU d.us dd = false) (hub : okU d.us b = true)
  (hc : (ty.c x)[col]? = some (.sl true z ((o x).map ty2.c))) (hs : ∀ y, ty2.c y = ty2.d y) (hrows : kb.rows = l.map ty.c) (hx : l[j]? = some x) (hzb : kb.size < MAPS) (hzs : z < MAPS) :
  (takeD d b dd kb l.length ((l.map ty.c).set j ((ty.c x).set col (.ref dd 0 (o x).length))) z ((o x).map ty2.c)).Ok ∧ Gst G d.st (takeD d b dd kb l.length ((l.map ty.c).set j ((ty.c x).set col (.ref dd 0 (o x).length))) z ((o x).map ty2.c)).st := by
 have hbd : b ≠ dd := fun e => by subst e; rw [hu] at hub; simp at hub
 have hstrip : ((o x).map ty2.c).map (·.map V.strip) = (o x).map ty2.c := by
  rw [List.map_map]
  exact List.map_congr_left fun y _ => by
   show (ty2.c y).map V.strip = ty2.c y
   rw [hs y]; exact ty2.st y
 have gt := Gst.take (G := G) (st := d.st) (b := b) (d := dd) (i := j) (j := col) (size := z) (k := kb) (row := ty.c x) (rows := (o x).map ty2.c) (by rw [D.st_u]; exact hu) hb hbd (by rw [hrows, List.getElem?_map, hx]; rfl) hc hzb hzs
 have e : takeRef d.st b dd j col kb (ty.c x) z ((o x).map ty2.c) = (takeD d b dd kb l.length ((l.map ty.c).set j ((ty.c x).set col (.ref dd 0 (o x).length))) z ((o x).map ty2.c)).st := by
  unfold takeRef
  rw [hstrip, hrows, List.length_map]
  refine St.ext' rfl fun loc => ?_
  cases loc with
  | t q => rfl
  | b q =>
   constructor
   ·show (if q = dd then _ else if q = b then _ else d.st.b q) = (match ((dd, (⟨z, false, (o x).map ty2.c⟩ : Blk)) :: (b, ⟨kb.size, kb.excl, (l.map ty.c).set j ((ty.c x).set col (.ref dd 0 (o x).length))⟩) :: d.bs.filter (fun p => !(p.1 == b))).find? (fun p => p.1 == q) with | some p => some p.2 | none => none)
    by_cases h1 : q = dd
    ·subst h1; simp
    ·rw [if_neg h1, List.find?_cons_of_neg (by simpa using fun e => h1 e.symm)]
     by_cases h2 : q = b
     ·subst h2; simp
     ·rw [if_neg h2, List.find?_cons_of_neg (by simpa using fun e => h2 e.symm), find_filter (q := fun i => !(i == b)) (by simpa using h2)]
      rfl
   ·show (if q = dd then true else if q = b then true else okU d.us q) = okU (dd :: d.us) q
    rw [okU_cons]
    by_cases h1 : q = dd
    ·rw [if_pos h1, if_pos h1]
    ·rw [if_neg h1, if_neg h1]
     by_cases h2 : q = b
     ·subst h2; rw [if_pos rfl]; exact hub.symm
     ·rw [if_neg h2]
 refine ⟨?_, by rw [← e]; exact gt⟩
 have mu : ∀ c, okU d.us c = true → okU (dd :: d.us) c = true := fun c hc => by rw [okU_cons]; split; rfl; exact hc
 refine ⟨?_, fun {q k} => ?_, ?_⟩
 ·intro i
  exact okV_mono mu _ (hd.tmp i)
 ·intro hk
  rw [← e] at hk
  have hk' : (if q = dd then some (⟨z, false, ((o x).map ty2.c).map (·.map V.strip)⟩ : Blk) else if q = b then some { kb with rows := kb.rows.set j ((ty.c x).set col (.ref dd 0 ((o x).map ty2.c).length)) } else d.st.b q) = some k := hk
  by_cases h1 : q = dd
  ·rw [if_pos h1] at hk'
   simp only [Option.some.injEq] at hk'; subst hk'
   refine ⟨by show okU (dd :: d.us) q = true; rw [okU_cons, if_pos h1], fun r hr c hc => ?_⟩
   simp only at hr
   rw [hstrip] at hr
   exact dcell_okV (ty2.data _ r hr c hc) _
  ·rw [if_neg h1] at hk'
   by_cases h2 : q = b
   ·rw [if_pos h2] at hk'
    simp only [Option.some.injEq] at hk'; subst hk'
    obtain ⟨o1, o2⟩ := hd.blk hb
    refine ⟨mu _ (by rw [h2]; exact o1), fun r hr c hc => ?_⟩
    rcases List.mem_or_eq_of_mem_set hr with hr | rfl
    ·exact okV_mono mu _ (o2 r hr c hc)
    ·rcases List.mem_or_eq_of_mem_set hc with hc | rfl
     ·exact okV_mono mu _ (o2 (ty.c x) (by rw [hrows]; exact List.mem_map.2 ⟨x, List.mem_of_getElem? hx, rfl⟩) c hc)
     ·show okU (dd :: d.us) dd = true
      rw [okU_cons, if_pos rfl]
   ·rw [if_neg h2] at hk'
    obtain ⟨o1, o2⟩ := hd.blk hk'
    exact ⟨mu _ o1, fun r hr c hc => okV_mono mu _ (o2 r hr c hc)⟩
 ·intro q hq k hk
  rw [← e] at hk
  have hk' : (if q = dd then some (⟨z, false, ((o x).map ty2.c).map (·.map V.strip)⟩ : Blk) else if q = b then some { kb with rows := kb.rows.set j ((ty.c x).set col (.ref dd 0 ((o x).map ty2.c).length)) } else d.st.b q) = some k := hk
  by_cases h1 : q = dd
  ·rw [if_pos h1] at hk'
   simp only [Option.some.injEq] at hk'; subst hk'
   rw [hstrip]; exact ty2.data _
  ·rw [if_neg h1] at hk'
   have hq' : q ∈ dd :: d.sy.filter (fun x => !(x == b)) := hq
   rcases List.mem_cons.1 hq' with hq' | hq'
   ·exact absurd hq' h1
   obtain ⟨q1, q2⟩ := List.mem_filter.1 hq'
   have h2 : q ≠ b := by simpa using q2
   rw [if_neg h2] at hk'
   exact hd.sy q q1 k hk'
theorem ghX_spec {G : Nat → Option (List V)} {d : D} {w : GhW} {next : D → C} {X : C} (h : ghX w d next = X) (hX : ∀ j, C.stuck j ≠ X) (he : ghE w d = w.eqs) (hd : d.Ok) : ∃ d' : D, next d' = X ∧ d'.Ok ∧ Gst G d.st d'.st ∧ d'.n = d.n := by
 cases w with
 | virt d t size => exact virt_spec h hX hd
 | virtC d b j size => exact virtC_spec h hX hd
 | ren a b => exact ren_spec h hX hd
 | share v n => exact share_spec h hX he hd
 | drop l => exact drop_spec h hX hd
 | tell b es => exact tell_spec h hX hd
 | len b m ns hn => exact len_spec h he hd
theorem coeV_okV {u : Nat → Bool} : ∀ (n : Nat) (e c : V), okV u (coeV n e c) = true → okV u c = true
 | 0, _, _, h => h
 | n + 1, e, c, h => by
  have lst : ∀ (es cs : List V), okL u (coeL (coeV n) es cs) = true → okL u cs = true := by
   intro es cs
   induction cs generalizing es with
   | nil => intro _; rfl
   | cons c cs ih =>
    intro h
    cases es with
    | nil => exact h
    | cons e es =>
     simp only [coeL, okL, Bool.and_eq_true] at h ⊢
     exact ⟨coeV_okV n e c h.1, ih es h.2⟩
  cases c <;> simp only [coeV] at h <;> try exact h
  case nilsl => rfl
  case sl => rfl
  case agg cs =>
   split at h
   ·simp only [okV] at h ⊢; exact lst _ _ h
   ·exact h
  case tup cs =>
   split at h
   ·simp only [okV] at h ⊢; exact lst _ _ h
   ·exact h
theorem coeR_okV {u : Nat → Bool} : ∀ (es cs : List (List V)), (∀ r, r ∈ coeR es cs → ∀ c, c ∈ r → okV u c = true) → ∀ r, r ∈ cs → ∀ c, c ∈ r → okV u c = true
 | [], cs, h => by cases cs <;> exact h
 | _ :: _, [], _ => fun r hr => by simp at hr
 | e :: es, c :: cs, h => fun r hr => by
  simp only [List.mem_cons] at hr
  rcases hr with rfl | hr
  ·have h0 : okL u (coeL (coeV 8) e r) = true := okL_all.2 fun c hc => h _ (by simp [coeR]) c hc
   have : ∀ (es cs : List V), okL u (coeL (coeV 8) es cs) = true → okL u cs = true := by
    intro es cs
    induction cs generalizing es with
    | nil => intro _; rfl
    | cons c cs ih =>
     intro h
     cases es with
     | nil => exact h
     | cons e es =>
      simp only [coeL, okL, Bool.and_eq_true] at h ⊢
      exact ⟨coeV_okV 8 e c h.1, ih es h.2⟩
   exact okL_all.1 (this _ _ h0)
  ·exact coeR_okV es cs (fun r hr => h r (by simp [coeR, hr])) r hr
def extGoal (x : Ext) (n : Nat) : Exit → St → Prop := fun e s => e = x.ex ∧ s.n = n ∧ extTs x s = x.ts ∧ extBs x s = x.bs.map fun p => (p.1, some p.2)
theorem ext_ghost {G : Nat → Option (List V)} {x : Ext} {s : St} (hok : x.ok = true) (ht : extTs x s = x.ts) (hb : extBs x s = x.bs.map fun p => (p.1, some p.2)) : Gst G s (x.D s.n).st := by
 simp only [Ext.ok, Bool.and_eq_true, List.all_eq_true] at hok
 have htp : ∀ p, p ∈ x.ts → coeV 8 p.2 (s.t p.1) = p.2 := fun p hp => by
  have := List.map_inj_left.1 (show x.ts.map (fun p => (p.1, coeV 8 p.2 (s.t p.1))) = x.ts.map (fun p => (p.1, p.2)) from ht.trans (by simp)) p hp
  simpa using this
 have hbp : ∀ p, p ∈ x.bs → coeB x.dt p.1 p.2 (s.b p.1) = some p.2 := fun p hp => by
  have := List.map_inj_left.1 hb p hp
  simpa using this
 have hbs : ∀ p, p ∈ x.bs → ∃ k, s.b p.1 = some k ∧ k.size = p.2.size ∧ k.excl = p.2.excl ∧ (p.1 ∈ x.dt → k = p.2) ∧ (¬ p.1 ∈ x.dt → coeR p.2.rows k.rows = p.2.rows) := fun p hp => by
  have := hbp p hp
  unfold coeB at this
  split at this
  ·rename_i hd; exact ⟨p.2, this, rfl, rfl, fun _ => rfl, fun h => absurd (by simpa using hd) h⟩
  ·rename_i hd
   obtain ⟨k, h1, h2⟩ := Option.map_eq_some_iff.1 this
   refine ⟨k, h1, by rw [← h2], by rw [← h2], fun h => absurd h (by simpa using hd), fun _ => by
    have := congrArg Blk.rows h2
    exact this⟩
 let kOf : Nat × Blk → Blk := fun p => match s.b p.1 with | some k => k | none => p.2
 have hkOf : ∀ p, p ∈ x.bs → s.b p.1 = some (kOf p) := fun p hp => by
  obtain ⟨k, h1, _⟩ := hbs p hp
  simp only [kOf, h1]
 let s0 := stOf s.n (x.ts.map fun p => (p.1, s.t p.1)) (x.bs.map fun p => (p.1, kOf p)) x.us
 have F : Forget s s0 := by
  refine forget_to rfl ?_ ?_ ?_ ?_ ?_
  ·rw [List.map_map, List.map_map]; rfl
  ·refine List.all_eq_true.2 fun q hq => ?_
   obtain ⟨p, hp, rfl⟩ := List.mem_map.1 hq
   refine coeV_okV 8 p.2 _ ?_
   show okV _ (coeV 8 p.2 (s.t p.1)) = true
   rw [htp p hp]
   exact hok.1 p hp
  ·rw [List.map_map, List.map_map]
   exact List.map_congr_left fun p hp => hkOf p hp
  ·refine List.all_eq_true.2 fun q hq => ?_
   obtain ⟨p, hp, rfl⟩ := List.mem_map.1 hq
   show okU x.us p.1 = true
   simp only [okU, Ext.us, Bool.or_eq_true, List.contains_eq_mem, decide_eq_true_eq]
   exact .inl (List.mem_map.2 ⟨p, hp, rfl⟩)
  ·intro q hq r hr c hc
   obtain ⟨p, hp, rfl⟩ := List.mem_map.1 hq
   obtain ⟨k, h1, h2, h3, h4, h5⟩ := hbs p hp
   have hk : kOf p = k := by simp only [kOf, h1]
   simp only [hk] at hr
   by_cases hd : p.1 ∈ x.dt
   ·rw [h4 hd] at hr
    exact dcell_okV (x.dat p hp hd r hr c hc) _
   ·have := hok.2 p hp
    simp only [blkOkB, Bool.or_eq_true, List.contains_eq_mem, decide_eq_true_eq, List.all_eq_true] at this
    have hall := this.resolve_left hd
    exact coeR_okV p.2.rows k.rows (by rw [h5 hd]; exact hall) r hr c hc
 refine (Gst.forget F).trans (Gst.cells rfl rfl (fun i => ?_) fun b => ?_)
 ·show Wk _ _ (s0.t i) ((stOf s.n x.ts x.bs x.us).t i)
  simp only [s0, stOf_t]
  rw [find_map_id (fun p => s.t p.1)]
  cases hf : x.ts.find? (fun p => p.1 == i) with
  | none => exact Wk.refl _
  | some p =>
   simp only [Option.map_some]
   have := htp p (find_mem hf).1
   have w := coeV_wk (bs := (x.D s.n).st.b) (u := (x.D s.n).st.u) 8 p.2 (s.t p.1)
   rw [this] at w
   exact w
 ·show (s0.b b = none ∧ (stOf s.n x.ts x.bs x.us).b b = none) ∨ _
  simp only [s0, stOf_b]
  rw [find_map_id kOf]
  cases hf : x.bs.find? (fun p => p.1 == b) with
  | none => exact .inl ⟨rfl, rfl⟩
  | some p =>
   simp only [Option.map_some]
   obtain ⟨k, h1, h2, h3, h4, h5⟩ := hbs p (find_mem hf).1
   have hk : kOf p = k := by simp only [kOf, h1]
   rw [hk]
   refine .inr ⟨k, p.2, rfl, ?_, h2.symm, h3.symm, ?_⟩
   ·show (stOf s.n x.ts x.bs x.us).b b = _
    rw [stOf_b, hf]
   ·by_cases hd : p.1 ∈ x.dt
    ·rw [h4 hd]
     exact ⟨rfl, fun i r' h => ⟨r', h, rfl, fun j c' hc => ⟨c', hc, Wk.refl _, fun _ => .inl rfl⟩⟩⟩
    ·have := coeR_rel (bs := (x.D s.n).st.b) (u := (x.D s.n).st.u) p.2.rows k.rows
     rw [h5 hd] at this
     exact this
end Go.EV
namespace Go.EV
open Go
section
variable {P : Program} {G : Nat → Option (List V)}
def Rel (_P : Program) (G : Nat → Option (List V)) (Q : Exit → St → Prop) (e : Exit) (st : St) : Prop :=
 ∀ (fx : Fx) (γ : Gh) (a : Act) (w : World), Sim G γ st a.tmps w → a.defers = fx.ds → Lift G fx γ st w Q e a w
theorem Rel.of {Q : Exit → St → Prop} {e : Exit} {st : St} (h : Q e st) : Rel P G Q e st := fun _ γ _ w hs hd => ⟨st, γ, hs, ⟨.refl γ w, .refl hs.u⟩, .of hd, h⟩
theorem Rel.mono {Q Q' : Exit → St → Prop} {e e' : Exit} {st : St} (h : Rel P G Q e st) (hq : ∀ s, Q e s → Q' e' s) : Rel P G Q' e' st := fun fx γ a w hs hd => by
 obtain ⟨st', γ', h1, h2, h3, h4⟩ := h fx γ a w hs hd
 exact ⟨st', γ', h1, h2, h3, hq _ h4⟩
theorem Rel.forget {Q : Exit → St → Prop} {e : Exit} {st st' : St} (f : Forget st st') (h : Rel P G Q e st') : Rel P G Q e st := fun fx γ a w hs hd =>
 (h fx γ a w (f.sim hs) hd).grow ⟨.refl γ w, f.pin hs⟩
theorem Rel.ghost {Q : Exit → St → Prop} {e : Exit} {st st' : St} (g : Gst G st st') (h : Rel P G Q e st') : Rel P G Q e st := fun fx γ a w hs hd => by
 obtain ⟨γ', h1, h2, h3⟩ := g γ a.tmps w hs
 exact (h fx γ' a w h1 hd).grow ⟨h2, h3⟩
theorem TV.rel {c : Code} {st : St} {Q Q' : Exit → St → Prop} (h : TV P G c st Q') (hq : ∀ e s, Q' e s → Rel P G Q e s) : TV P G c st Q := fun fx γ a w hs hd =>
 wpIn_mono (h fx γ a w hs hd) fun e a' w' hl => by
  obtain ⟨st', γ', h1, h2, h3, h4⟩ := hl
  exact (hq e st' h4 ⟨fx.ro, a'.defers, fx.mx⟩ γ' a' w' h1 rfl).grow2 h2 h3
theorem TV.skipR {st : St} {Q : Exit → St → Prop} (h : Rel P G Q .normal st) : TV P G .skip st Q := fun fx γ a w hs hd => wpIn_skip (h fx γ a w hs hd.1)
theorem TV.labelR {l : Nat} {st : St} {Q : Exit → St → Prop} (h : Rel P G Q .normal st) : TV P G (.label l) st Q := fun fx γ a w hs hd => wpIn_label (h fx γ a w hs hd.1)
theorem TV.exitR {id : Nat} {st : St} {Q : Exit → St → Prop} (h : Rel P G Q (.exit id) st) : TV P G (.exit id) st Q := fun fx γ a w hs hd => wpIn_exit (h fx γ a w hs hd.1)
theorem TV.retR {st : St} {Q : Exit → St → Prop} (h : Rel P G Q .ret st) : TV P G .ret st Q := fun fx γ a w hs hd => wpIn_ret (h fx γ a w hs hd.1)
def TVin (P : Program) (G : Nat → Option (List V)) (c : Code) (st : St) (Q : Exit → St → Prop) : Prop :=
 ∀ (fx : Fx) (γ : Gh) (a : Act) (w : World), Sim G γ st a.tmps w → FxOk fx γ a.defers w → CWin fx.ro P c (Lift G fx γ st w Q) a w
theorem TV.lpAux {c : Code} {st : St} {Q : Exit → St → Prop} (h : TV P G c st (thenV (fun s => TVin P G c s Q) Q)) : ∀ (fx : Fx) (γ : Gh) (a : Act) (w : World), Sim G γ st a.tmps w → FxOk fx γ a.defers w → CW fx.ro P c (Exit.then (CWin fx.ro P c (Lift G fx γ st w Q)) (Lift G fx γ st w Q)) a w := fun fx γ a w hs hd =>
 wpIn_mono (h fx γ a w hs hd) fun e a' w' hl => by
  obtain ⟨st', γ', h1, h2, h3, h4⟩ := hl
  cases e with
  | normal => exact cwIn_mono (h4 ⟨fx.ro, a'.defers, fx.mx⟩ γ' a' w' h1 (hd.step h2.1)) fun _ _ _ hl => hl.grow2 h2 h3
  | _ => exact ⟨st', γ', h1, h2, h3, h4⟩
theorem TV.loopOnce {c : Code} {st : St} {Q : Exit → St → Prop} (h : TV P G c st (thenV (fun s => TVin P G c s Q) Q)) : TV P G (.loop c) st Q := fun fx γ a w hs hd => cw_loop_once (TV.lpAux h fx γ a w hs hd)
theorem TVin.once {c : Code} {st : St} {Q : Exit → St → Prop} (h : TV P G c st (thenV (fun s => TVin P G c s Q) Q)) : TVin P G c st Q := fun fx γ a w hs hd => cwIn_once (TV.lpAux h fx γ a w hs hd)
def noGoto (Q : Exit → St → Prop) : Exit → St → Prop
 | .goto _, _ => False
 | e, st => Q e st
def Qx (P : Program) (G : Nat → Option (List V)) (Q : Exit → St → Prop) : List Kf → Exit → St → Prop
 | [] => Q
 | .seq y :: K => thenV (fun st => TV P G y st (Qx P G Q K)) (Qx P G Q K)
 | .block id :: K => inBlockV id (Qx P G Q K)
 | .scope :: K => noGoto (Qx P G Q K)
 | .lp c :: K => thenV (fun st => TVin P G c st (Qx P G Q K)) (Qx P G Q K)
def goal (P : Program) {ρ : Type} (F : Fin' ρ) (r : ρ) (n : Nat) : Exit → St → Prop :=
 match F with
 | .fn rs res outs => fun e s => ∃ v0, coeV 8 (res r) v0 = res r ∧ Done P rs v0 (ofL (outs r)) e s
 | .mid E => extGoal (E r) n
 | .reg _ _ => fun _ _ => False
 | .rnd S E => match r with
  | .inl y => fun e s => isNormal e = true ∧ extGoal (S y) n e s
  | .inr z => fun e s => isNormal e = false ∧ extGoal (E z) n e s
def Post (P : Program) (G : Nat → Option (List V)) (Q : Exit → St → Prop) (cur : Code ⊕ Exit) (K : List Kf) (st : St) : Prop :=
 match cur with
 | .inl c => TV P G c st (Qx P G Q K)
 | .inr e => Rel P G (Qx P G Q K) e st
def RecOk (rec : Rec P G) : Prop :=
 ∀ (ρ : Type) (F : Fin' ρ) (g : T P G ρ) (cur : Code ⊕ Exit) (K : List Kf) (d : D) (r : ρ), d.Ok → rec ρ F g cur K d = g.expect F → g.run = some r → Post P G (goal P F r d.n) cur K d.st
section
variable {kp : List Nat} {rec : Rec P G} (hm : P.follows .mixedOrders = true) (hrec : RecOk rec) {ρ : Type} {F : Fin' ρ} {g : T P G ρ} {K : List Kf} {d : D} {r : ρ}
theorem finExt_spec {e : Exit} {x : Ext} (h : finExt e x d = extFin x.ex x) : extGoal x d.n e d.st := by
 simp only [finExt, extFin, C.fin.injEq, true_and, Option.some.injEq] at h
 exact ⟨h.1, rfl, h.2.1, h.2.2⟩
theorem fin_spec {e : Exit} (h : fin P G F g e d = g.expect F) (hr : g.run = some r) : goal P F r d.n e d.st := by
 cases g <;> simp only [fin] at h <;> try exact absurd h (expect_ns _ _ _)
 case done r' =>
  simp only [T.run, Option.some.injEq] at hr
  subst hr
  cases F with
  | fn rs res outs =>
   have key : (e = .normal ∨ e = .ret) → C.fin ((resultsV P d.st rs).map (coeV 8 (res r'))) none [] ((outs r').map fun p => (p.1, d.st.b p.1)) = T.expect (Fin'.fn rs res outs) (T.done (P := P) (G := G) r') → goal P (Fin'.fn rs res outs) r' d.n e d.st := by
    intro he h
    simp only [T.expect, C.fin.injEq, true_and] at h
    obtain ⟨v0, h0, h1⟩ := Option.map_eq_some_iff.1 h.1
    refine ⟨v0, h1, he, h0, fun b k hk => ?_⟩
    have hmem := ofL_some hk
    have := List.map_inj_left.1 h.2 (b, k) hmem
    simp only [Prod.mk.injEq, true_and] at this
    exact this
   simp only at h
   split at h
   ·exact key (.inl rfl) h
   ·exact key (.inr rfl) h
   ·simp [T.expect] at h
  | mid E => exact finExt_spec (by simpa [T.expect] using h)
  | reg ts E => exact absurd h (expect_ns _ _ _)
  | rnd S E =>
   cases r' with
   | inl y =>
    simp only at h
    split at h
    ·rename_i hn; exact ⟨hn, finExt_spec (by simpa [T.expect] using h)⟩
    ·exact absurd h (expect_ns _ _ _)
   | inr z =>
    simp only at h
    split at h
    ·exact absurd h (expect_ns _ _ _)
    ·rename_i hn; exact ⟨hn, finExt_spec (by simpa [T.expect] using h)⟩
theorem extD_ok {x : Ext} {n : Nat} (hok : x.ok = true) : (x.D n).Ok := by
 have hok' := hok
 simp only [Ext.ok, Bool.and_eq_true, List.all_eq_true] at hok'
 refine D.Ok.of_lists (fun p hp => hok'.1 p hp) (fun p hp => ⟨?_, fun r hr c hc => ?_⟩) (fun b hb k hk => ?_)
 ·simp only [okU, Ext.D, Ext.us, Bool.or_eq_true, List.contains_eq_mem, decide_eq_true_eq]
  exact .inl (List.mem_map.2 ⟨p, hp, rfl⟩)
 ·have := hok'.2 p hp
  simp only [blkOkB, Bool.or_eq_true, List.contains_eq_mem, decide_eq_true_eq, List.all_eq_true] at this
  rcases this with h1 | h1
  ·exact dcell_okV (x.dat p hp h1 r hr c hc) _
  ·exact h1 r hr c hc
 ·unfold D.st at hk
  rw [stOf_b] at hk
  split at hk
  ·rename_i p hp
   simp only [Option.some.injEq] at hk
   subst hk
   obtain ⟨h1, h2⟩ := find_mem hp
   exact x.dat p h1 (by rw [h2]; exact hb)
  ·simp at hk
theorem isNormal_false {e : Exit} (h : isNormal e = false) : e ≠ .normal := by cases e <;> simp_all [isNormal]
theorem isNormal_true {e : Exit} (h : isNormal e = true) : e = .normal := by cases e <;> simp_all [isNormal]
theorem thenV_other {A : St → Prop} {Q : Exit → St → Prop} {e : Exit} (h : e ≠ .normal) (s : St) (hq : Q e s) : thenV A Q e s := by
 cases e <;> first | exact absurd rfl h | exact hq
include hrec in
theorem sxE_spec {e : Exit} (hd : d.Ok) (h : sxE rec F g e K d = g.expect F) (hr : g.run = some r) : Rel P G (Qx P G (goal P F r d.n) K) e d.st := by
 unfold sxE at h
 split at h
 ·exact Rel.of (fin_spec h hr)
 ·rename_i y K
  split at h
  ·rename_i hn
   have := hrec _ _ _ _ _ _ _ hd h hr
   rw [isNormal_true hn]
   exact Rel.of (show TV P G y d.st _ from this)
  ·rename_i hn
   have : Rel P G (Qx P G (goal P F r d.n) K) e d.st := hrec _ _ _ _ _ _ _ hd h hr
   exact this.mono fun s hq => thenV_other (isNormal_false hn) s hq
 ·rename_i id K
  split at h
  ·rename_i id'
   split at h
   ·rename_i he
    have : Rel P G (Qx P G (goal P F r d.n) K) .normal d.st := hrec _ _ _ _ _ _ _ hd h hr
    refine this.mono fun s hq => ?_
    show inBlockV id _ (.exit id') s
    simp only [inBlockV]
    rw [if_pos (by simpa using he)]; exact hq
   ·rename_i he
    have : Rel P G (Qx P G (goal P F r d.n) K) (.exit id') d.st := hrec _ _ _ _ _ _ _ hd h hr
    refine this.mono fun s hq => ?_
    show inBlockV id _ (.exit id') s
    simp only [inBlockV]
    rw [if_neg (by simpa using he)]; exact hq
  ·rename_i he
   have : Rel P G (Qx P G (goal P F r d.n) K) e d.st := hrec _ _ _ _ _ _ _ hd h hr
   refine this.mono fun s hq => ?_
   show inBlockV id _ e s
   cases e <;> first | exact absurd rfl (he _) | exact hq
 ·rename_i K
  split at h
  ·exact absurd h (expect_ns _ _ _)
  ·rename_i he
   have : Rel P G (Qx P G (goal P F r d.n) K) e d.st := hrec _ _ _ _ _ _ _ hd h hr
   refine this.mono fun s hq => ?_
   show noGoto _ e s
   cases e <;> first | exact absurd rfl (he _) | exact hq
 ·rename_i c K
  split at h
  ·rename_i hn
   have := hrec _ _ _ _ _ _ _ hd h hr
   rw [isNormal_true hn]
   exact Rel.of (show TVin P G c d.st _ from TVin.once this)
  ·rename_i hn
   have : Rel P G (Qx P G (goal P F r d.n) K) e d.st := hrec _ _ _ _ _ _ _ hd h hr
   exact this.mono fun s hq => thenV_other (isNormal_false hn) s hq
include hrec hm in
theorem sxRg_spec {id : Nat} {ops : Array Oper} {draw : Bool} (hd : d.Ok) (h : sxRg kp rec F id ops draw g K d = g.expect F) (hr : g.run = some r) : TV P G (.region id ops draw) d.st (Qx P G (goal P F r d.n) K) := by
 obtain ⟨g', s, p, sy', x1, x2, x3, x4, x5, x6⟩ := region_sound h hr hd.sy
 split at x1
 ·rename_i hdr
  obtain ⟨d', y1, y2, y3, y4⟩ := regEnd_spec x1 (fun j => expect_ns F g' j) hd x5 x3
  have hq : Rel P G (Qx P G (goal P F r d'.n) K) .normal d'.st := hrec _ _ _ _ _ _ _ y2 y1 x2
  rw [y4] at hq
  refine TV.rel (Q' := fun e s' => e = .normal ∧ s' = s) (TV.plan hm hdr x5 x6 ⟨rfl, rfl⟩) fun e s' he => ?_
  obtain ⟨rfl, rfl⟩ := he
  exact hq.forget y3
 ·exact absurd x1 (expect_ns _ _ _)
theorem regFin_spec {ops : Array Oper} {draw : Bool} {ts : List Nat} {ε : Type} {E : ε → List V} {first : T P G ε} {e : ε} {s : St} {p : Plan} (h : regFin P G ops draw ts d first s p = first.expect (.reg ts E)) (hr : first.run = some e) :
  ts.map s.t = E e ∧ (!draw || drawOk ops p) = true ∧ (∀ b, b ∈ p.wbs → ∀ x, x ∈ d.bs → x.1 ≠ b) ∧ ∀ t, t ∈ p.wts → t ∈ ops.toList.filterMap (·.dst) := by
 unfold regFin at h
 split at h
 ·rename_i r'
  simp only [T.run, Option.some.injEq] at hr
  subst hr
  split at h
  ·rename_i hc
   simp only [T.expect, C.fins.injEq] at h
   simp only [Bool.and_eq_true, List.all_eq_true, Bool.not_eq_true', List.any_eq_false, beq_iff_eq] at hc
   exact ⟨h, hc.1, fun b hb x hx => hc.2.1 b hb x hx, fun t ht => by simpa using hc.2.2 t ht⟩
  ·exact absurd h (expect_ns _ _ _)
 ·simp [T.run] at hr
 ·exact absurd h (expect_ns _ _ _)
theorem zip_find {ts : List Nat} {vs : List V} {s : St} (h : ts.map s.t = vs) : ∀ p, p ∈ ts.zip vs → s.t p.1 = p.2 := by
 subst h
 intro p hp
 induction ts with
 | nil => simp at hp
 | cons t ts ih =>
  simp only [List.map_cons, List.zip_cons_cons, List.mem_cons] at hp
  rcases hp with rfl | hp
  ·rfl
  ·exact ih hp
include hrec hm in
theorem sxR_spec {id : Nat} {ops : Array Oper} {draw : Bool} (hd : d.Ok) (h : sxR kp rec F id ops draw g K d = g.expect F) (hr : g.run = some r) : TV P G (.region id ops draw) d.st (Qx P G (goal P F r d.n) K) := by
 unfold sxR at h
 split at h
 ·rename_i ε id' ts first E k
  split at h
  ·simp only [T.expect, C.bind.injEq, heq_eq_eq, true_and] at h
   obtain ⟨h1, h2⟩ := h
   simp only [T.run] at hr
   split at hr
   ·rename_i e he
    have h3 := congrFun h2 e
    split at h3
    ·rename_i hok
     simp only [Bool.and_eq_true, List.all_eq_true, beq_iff_eq] at hok
     obtain ⟨g', s, p, sy', x1, x2, x3, x4, x5, x6⟩ := region_sound h1 he hd.sy
     obtain ⟨y1, y2, y3, y4⟩ := regFin_spec x1 x2
     have tmp : ∀ i, ¬ i ∈ ops.toList.filterMap (·.dst) → s.t i = d.st.t i := fun i hi => by rw [x5]; exact along_t_other (fun hm => hi (y4 i hm)) _
     have fg : Forget s (cndD ops ts d (E e)).st := by
      refine ⟨?_, fun i => ?_, fun b => ?_, fun b hb => okU_top (uPin_le hb)⟩
      ·rw [x5, along_n]; rfl
      ·have e0 : (cndD ops ts d (E e)).st.t i = (match (ts.zip (E e) ++ d.ts.filter fun x => !(ops.toList.filterMap (·.dst)).contains x.1 && !ts.contains x.1).find? (fun p => p.1 == i) with | some p => p.2 | none => .undef) := rfl
       rw [e0, List.find?_append]
       cases hf : (ts.zip (E e)).find? (fun p => p.1 == i) with
       | some x =>
        obtain ⟨z1, z2⟩ := find_mem hf
        have z3 := zip_find y1 x z1
        refine .inr ⟨by simp only [Option.some_or]; rw [← z2]; exact z3.symm, ?_⟩
        rw [← z2, z3]
        exact hok.1 x.2 (List.of_mem_zip z1).2
       | none =>
        simp only [Option.none_or]
        cases hw : (!(ops.toList.filterMap (·.dst)).contains i && !ts.contains i) with
        | false => rw [find_filter_none (q := fun j => !(ops.toList.filterMap (·.dst)).contains j && !ts.contains j) hw]; exact .inl rfl
        | true =>
         rw [find_filter (q := fun j => !(ops.toList.filterMap (·.dst)).contains j && !ts.contains j) hw]
         simp only [Bool.and_eq_true, Bool.not_eq_true', List.contains_eq_mem, decide_eq_false_iff_not] at hw
         have e1 := tmp i hw.1
         exact .inr ⟨by rw [e1]; rfl, by rw [e1]; exact hd.tmp i⟩
      ·have e0 : (cndD ops ts d (E e)).st.b b = d.st.b b := rfl
       rw [e0]
       by_cases hw : b ∈ p.wbs
       ·refine .inl ?_
        unfold D.st
        rw [stOf_b]
        have : d.bs.find? (fun x => x.1 == b) = none := List.find?_eq_none.2 fun x hx hxe => y3 b hw x hx (by simpa using hxe)
        rw [this]
       ·have e1 : s.b b = d.st.b b := by rw [x5]; exact along_b_other hw _
        refine .inr ⟨by rw [e1], fun k hk => ?_⟩
        rw [e1] at hk
        exact hd.blk hk
     have ok' : (cndD ops ts d (E e)).Ok := D.Ok.of_forget fg hd.sy
     have hq : Rel P G (Qx P G (goal P F r d.n) K) .normal (cndD ops ts d (E e)).st := hrec _ _ _ _ _ (cndD ops ts d (E e)) _ ok' h3 hr
     refine TV.rel (Q' := fun e s' => e = .normal ∧ s' = s) (TV.plan hm y2 x5 x6 ⟨rfl, rfl⟩) fun e s' he => ?_
     obtain ⟨rfl, rfl⟩ := he
     exact hq.forget fg
    ·exact absurd h3 (expect_ns _ _ _)
   ·simp at hr
  ·exact sxRg_spec hm hrec hd h hr
 ·exact sxRg_spec hm hrec hd h hr
end
end
end Go.EV
namespace Go.EV
open Go
structure CellsSame (w w1 : World) : Prop where
 size : w.heap.size ≤ w1.heap.size
 same : ∀ (B : Nat) (cs : Array Value) (e : TypeId) (fz : Nat × Nat), w.heap[B]? = some (.cells cs e fz) → w1.heap[B]? = some (.cells cs e fz)
 maps : ∀ (B : Nat) (es : Array MapEntry) (k : Nat), w.heap[B]? = some (.map es k) → w1.heap[B]? = some (.map es k)
theorem CellsSame.trans {a b c : World} (h : CellsSame a b) (k : CellsSame b c) : CellsSame a c := ⟨Nat.le_trans h.size k.size, fun B cs e fz hb => k.same B cs e fz (h.same B cs e fz hb), fun B es c hb => k.maps B es c (h.maps B es c hb)⟩
theorem cellAt_block {w : World} {B o : Nat} {v : Value} (h : cellAt w B o = some v) : ∃ cs e fz, w.heap[B]? = some (.cells cs e fz) := by
 unfold cellAt World.cell? at h
 cases hb : w.heap[B]? with
 | none => simp [hb] at h
 | some x => cases x <;> simp_all
theorem CellsSame.cell {w w1 : World} (h : CellsSame w w1) {B o : Nat} {v : Value} (hc : cellAt w B o = some v) : cellAt w1 B o = some v := by
 obtain ⟨cs, e, fz, hb⟩ := cellAt_block hc
 have := h.same B cs e fz hb
 unfold cellAt World.cell? at hc ⊢
 simp only [hb] at hc
 simp only [this]
 exact hc
theorem CellsSame.room {w w1 : World} (h : CellsSame w w1) {B n : Nat} (hr : RoomAt w B n) : RoomAt w1 B n := by
 obtain ⟨cs, e, fz, h1, h2⟩ := hr
 exact ⟨cs, e, fz, h.same B cs e fz h1, h2⟩
theorem CellsSame.rep {w w1 : World} (h : CellsSame w w1) {γ : Gh} {bs : Nat → Option Blk} {u : Nat → Bool} {c : V} {v : Value} (hr : Rep γ w bs u c v) : Rep γ w1 bs u c v := by
 induction hr with
 | data h1 => exact .data (h1.mono fun B o v h1 h2 => ⟨h1, h.cell h2⟩)
 | undef v => exact .undef v
 | ref b off len B o cap k h1 h2 h3 h4 h5 h6 h7 => exact .ref b off len B o cap k h1 h2 h3 h4 (h.room h5) h6 h7
 | refE b off B k h1 h6 h2 => exact .refE b off B k h1 h6 h2
 | refN b off k h1 h6 h2 => exact .refN b off k h1 h6 h2
 | deadRef b off len v h1 h2 h3 => exact .deadRef b off len v h1 h2 h3
 | ptr b i off B o k h1 h2 h3 => exact .ptr b i off B o k h1 h2 h3
 | mp b B k h1 h2 h3 => exact .mp b B k h1 h2 h3
 | deadMp b v h1 h2 h3 => exact .deadMp b v h1 h2 h3
 | deadPtr b i off v h1 h2 h3 => exact .deadPtr b i off v h1 h2 h3
 | fn f first captured fs cs h1 h2 _ _ ih1 ih2 => exact .fn f first captured fs cs h1 h2 ih1 ih2
 | agg cells vs h1 _ ih => exact .agg cells vs h1 ih
 | tup cells vs h1 _ ih => exact .tup cells vs h1 ih
theorem CellsSame.right {w w1 : World} (h : CellsSame w w1) {γ : Gh} {t : Owner} {c : V} {v : Value} (hr : Right γ w t c v) : Right γ w1 t c v := by
 unfold Right at hr ⊢
 split at hr
 ·rcases hr with hr | ⟨h1, cs, e, h2, h3⟩
  ·exact .inl hr
  ·exact .inr ⟨h1, cs, e, h.same _ _ _ _ h2, h3⟩
 ·trivial
theorem CellsSame.blkOk {w w1 : World} (h : CellsSame w w1) {γ : Gh} {bs : Nat → Option Blk} {u : Nat → Bool} {b : Nat} {k : Blk} (hb : BlkOk γ w bs u b k) : BlkOk γ w1 bs u b k := by
 rcases hb with h0 | hm | ⟨hM, B, o, cs, e, a1, a2, a3, a4, a5, a6, a7, a8⟩
 ·exact .inl h0
 ·obtain ⟨hM, B, es, clock, h1, h2, h3, h4, h5, h6, h7⟩ := hm
  refine .inr (.inl ⟨hM, B, es, clock, h1, h2, h.maps _ _ _ h3, h4, h5, h6, fun i c hc => ?_⟩)
  obtain ⟨v, a1, a2, a3⟩ := h7 i c hc
  exact ⟨v, a1, h.rep a2, a3⟩
 ·refine .inr (.inr ⟨hM, B, o, cs, e, a1, a2, h.same _ _ _ _ a3, a4, a5, fun i c hc => ?_, a7, a8⟩)
  obtain ⟨x, b1, b2, b3, b4⟩ := a6 i c hc
  exact ⟨x, b1, h.rep b2, b3, h.right b4⟩
theorem CellsSame.sim {w w1 : World} (h : CellsSame w w1) {G : Nat → Option (List V)} {γ : Gh} {st : St} {tmps : Array Value} (hs : Sim G γ st tmps w) : Sim G γ st tmps w1 :=
 ⟨hs.n, fun i => h.rep (hs.t i), fun b k hk => h.blkOk (hs.b b k hk), hs.u, fun g cells hg => (hs.g g cells hg).mono fun _ _ _ h1 h2 => ⟨h1, h.cell h2⟩, fun B x hx => Nat.lt_of_lt_of_le (hs.o B x hx) h.size⟩
theorem Grow.same {γ γ' : Gh} {w w1 w2 : World} (g : Grow γ w γ' w1) (h : CellsSame w1 w2) (hl : ∀ B, B < w.heap.size → w2.heap[B]? = w1.heap[B]?) (h1 : w2.os = w1.os) (h2 : w2.tape = w1.tape) (h3 : w2.output = w1.output) : Grow γ w γ' w2 where
 os := h1.trans g.os
 tape := h2.trans g.tape
 output := h3.trans g.output
 size := Nat.le_trans g.size h.size
 imm := fun B o v hB hc => h.cell (g.imm B o v hB hc)
 lim := g.lim
 free := fun B hB ho => by
  obtain ⟨a1, a2, a3⟩ := g.free B hB ho
  exact ⟨(hl B hB).trans a1, a2, a3⟩
 room := fun B cs e fz hc => by
  obtain ⟨cs', a1, a2⟩ := g.room B cs e fz hc
  exact ⟨cs', h.same _ _ _ _ a1, a2⟩
def dataObj : Obj → Bool
 | .cells _ _ _ => true
 | .map _ _ => true
 | _ => false
theorem CellsSame.put {w : World} {l : Nat} {o o' : Obj} (h : w.heap[l]? = some o) (hn : dataObj o = false) : CellsSame w (w.putObj l o') :=
 ⟨by simp, fun B cs e fz hb => by
  have hne : B ≠ l := fun e' => by subst e'; rw [h] at hb; simp only [Option.some.injEq] at hb; rw [hb] at hn; cases hn
  rw [World.putObj_heap_other hne]; exact hb, fun B es c hb => by
  have hne : B ≠ l := fun e' => by subst e'; rw [h] at hb; simp only [Option.some.injEq] at hb; rw [hb] at hn; cases hn
  rw [World.putObj_heap_other hne]; exact hb⟩
theorem Grow.put {γ γ' : Gh} {w w1 : World} (g : Grow γ w γ' w1) {l : Nat} {o o' : Obj} (h : w1.heap[l]? = some o) (hn : dataObj o = false) (hl : w.heap.size ≤ l) : Grow γ w γ' (w1.putObj l o') :=
 g.same (.put h hn) (fun B hB => World.putObj_heap_other (by omega)) rfl rfl rfl
theorem leaves_marks {P : Program} {fn : Func} {tmps : Array Value} {R : Ending → World → Prop} (I : World → Prop) (hI : ∀ w, I w → ∃ v, (results fn tmps).run P w = .ok v w ∧ R (.returned v) w) :
  ∀ (Ds : List Nat) (w : World), I w → Ds.Nodup → (∀ D, D ∈ Ds → w.heap[D]? = some (.deferred (some []))) → (∀ D w, D ∈ Ds → I w → w.heap[D]? = some (.deferred (some [])) → I (w.putObj D (.deferred none))) →
   LeavesInM (RF none) 0 P fn tmps R (Ds.map markD) .returning w
 | [], w, h, _, _, _ => hI w h
 | D :: Ds, w, h, hn, hd, hp => by
  refine ⟨by simp, .inl ⟨D, _, rfl, run_takeDeferred (hd D (by simp)), ?_⟩⟩
  have hn' := List.nodup_cons.1 hn
  refine leaves_marks I hI Ds _ (hp D w (by simp) h (hd D (by simp))) hn'.2 (fun E hE => ?_) fun E w hE => hp E w (by simp [hE])
  have hne : E ≠ D := fun e => hn'.1 (by rw [← e]; exact hE)
  rw [World.putObj_heap_other hne]
  exact hd E (by simp [hE])
end Go.EV
namespace Go.EV
open Go
section
variable {P : Program} {G : Nat → Option (List V)} {kp : List Nat} {rec : Rec P G} (hm : P.follows .mixedOrders = true) (hrec : RecOk rec) {ρ : Type} {F : Fin' ρ} {g : T P G ρ} {K : List Kf} {d : D} {r : ρ}
theorem TV.scopeN {c : Code} {st : St} {Q : Exit → St → Prop} (h : TV P G c st (noGoto Q)) : TV P G (.scope c) st Q :=
 (TV.scope h fun l s hs => hs.elim).mono fun e s hs => by
  cases e <;> first | exact hs.elim | exact hs
theorem loop_main {σ ε : Type} {S : σ → Ext} {body : σ → T P G (σ ⊕ ε)} {E : ε → Ext} {x : Code} {n : Nat} (hrec : RecOk rec)
  (hb : ∀ y, (match (S y).ok && isNormal (S y).ex with
     | true => rec _ (.rnd S E) (body y) (.inl x) [] ((S y).D n)
     | false => .stuck 69) = (body y).expect (.rnd S E))
  (e0 : ε) (m : Nat) (y0 : σ) (hit : iter (fun y => (body y).run) m y0 = some e0) : TV P G (.loop x) ((S y0).D n).st (extGoal (E e0) n) := by
 have okS : ∀ y, (S y).ok = true ∧ rec _ (.rnd S E) (body y) (.inl x) [] ((S y).D n) = (body y).expect (.rnd S E) := fun y => by
  have := hb y
  split at this
  ·rename_i h
   simp only [Bool.and_eq_true] at h
   exact ⟨h.1, this⟩
  ·exact absurd this (expect_ns _ _ _)
 refine TV.loop (fun m st => ∃ y, st = ((S y).D n).st ∧ iter (fun y => (body y).run) m y = some e0) (fun m st hI => ?_) (n := m) ⟨y0, rfl, hit⟩
 obtain ⟨y, rfl, hy⟩ := hI
 obtain ⟨s1, s3⟩ := okS y
 cases m with
 | zero => simp [iter] at hy
 | succ m =>
  have hy' : (match (body y).run with | none => none | some (.inl z) => iter (fun y => (body y).run) m z | some (.inr e) => some e) = some e0 := hy
  cases hrun : (body y).run with
  | none => rw [hrun] at hy'; simp at hy'
  | some z =>
   rw [hrun] at hy'
   cases z with
   | inl z =>
    simp only at hy'
    have key : TV P G x ((S y).D n).st (fun e s => isNormal e = true ∧ extGoal (S z) n e s) := hrec _ _ _ _ _ _ _ (extD_ok s1) s3 hrun
    obtain ⟨z1, _⟩ := okS z
    refine TV.rel key fun e s hg => ?_
    obtain ⟨g0, _, g2, g3, g4⟩ := hg
    have f := ext_ghost (G := G) (s := s) z1 g3 g4
    rw [g2] at f
    rw [isNormal_true g0]
    exact Rel.ghost f (Rel.of ⟨m, by omega, z, rfl, hy'⟩)
   | inr e =>
    simp only [Option.some.injEq] at hy'
    subst hy'
    have key : TV P G x ((S y).D n).st (fun e' s => isNormal e' = false ∧ extGoal (E e) n e' s) := hrec _ _ _ _ _ _ _ (extD_ok s1) s3 hrun
    exact key.mono fun e' s hg => thenV_other (isNormal_false hg.1) s hg.2
include hrec in
theorem sxN_spec {c : Code} (hd : d.Ok) (h : sxN rec F g c K d = g.expect F) (hr : g.run = some r) : TV P G c d.st (Qx P G (goal P F r d.n) K) := by
 unfold sxN at h
 split at h
 ·rename_i o x y
  split at h
  ·rename_i a' c' a b
   split at h
   ·rename_i c hc
    simp only [T.expect, C.br.injEq] at h
    obtain ⟨rfl, h1, h2⟩ := h
    simp only [T.run] at hr
    refine TV.cond hc ?_
    cases c with
    | true => exact hrec _ _ _ _ _ _ _ hd h1 (by simpa using hr)
    | false => exact hrec _ _ _ _ _ _ _ hd h2 (by simpa using hr)
   ·exact absurd h (expect_ns _ _ _)
  ·rename_i k
   split at h
   ·rename_i c hc
    split at h
    ·refine TV.cond hc ?_
     exact hrec _ _ _ _ _ _ _ hd (by simpa [T.expect] using h) (by simpa [T.run] using hr)
    ·exact absurd h (expect_ns _ _ _)
   ·exact absurd h (expect_ns _ _ _)
  ·rename_i k
   split at h
   ·rename_i c hc
    split at h
    ·refine TV.cond hc ?_
     exact hrec _ _ _ _ _ _ _ hd (by simpa [T.expect] using h) (by simpa [T.run] using hr)
    ·exact absurd h (expect_ns _ _ _)
   ·exact absurd h (expect_ns _ _ _)
  ·exact absurd h (expect_ns _ _ _)
 ·exact TV.block (hrec _ _ _ _ _ _ _ hd h hr)
 ·exact TV.scopeN (hrec _ _ _ _ _ _ _ hd h hr)
 ·rename_i x
  split at h
  ·rename_i σ S body x0
   split at h
   ·rename_i E
    split at h
    ·simp only [T.expect, C.loop.injEq, heq_eq_eq, true_and] at h
     obtain ⟨h1, h2, h3⟩ := h
     simp only [T.run] at hr
     have hb := fun y => congrFun h3 y
     have s1 : (S x0).ok = true := by
      have := hb x0
      split at this
      ·rename_i h; simp only [Bool.and_eq_true] at h; exact h.1
      ·exact absurd this (expect_ns _ _ _)
     exact TV.ghost (ext_ghost (s := d.st) s1 h1 h2) (loop_main hrec hb r FUEL x0 hr)
    ·exact absurd h (expect_ns _ _ _)
   ·exact absurd h (expect_ns _ _ _)
  ·exact TV.loopOnce (hrec _ _ _ _ _ _ _ hd h hr)
 ·split at h
  ·rename_i ε S k
   split at h
   ·rename_i hx
    simp only [T.expect, C.sub.injEq, heq_eq_eq, true_and] at h
    obtain ⟨h1, h2, h3, h4, h5⟩ := h
    simp only [T.run] at hr
    split at hr
    ·rename_i e he
     have h6 := congrFun h5 e
     split at h6
     ·rename_i hok
      have key := S.ok e he
      rw [← h1, ← h2] at key
      have hq : Rel P G (Qx P G (goal P F r d.n) K) (S.E e).ex ((S.E e).D d.n).st := hrec _ _ _ _ _ ((S.E e).D d.n) _ (extD_ok hok) h6 hr
      refine TV.ghost (ext_ghost (s := d.st) hx h3 h4) (TV.rel key fun e' s hg => ?_)
      obtain ⟨g1, g2⟩ := hg
      rw [g1]
      exact hq.ghost g2
     ·exact absurd h6 (expect_ns _ _ _)
    ·simp at hr
   ·exact absurd h (expect_ns _ _ _)
  ·exact absurd h (expect_ns _ _ _)
 ·exact absurd h (expect_ns _ _ _)
include hrec in
theorem bind_spec {ε : Type} {E : ε → Ext} {E' : Ext} {e : ε} {first : T P G ε} {k : T P G ρ} {c : Code} (hd : d.Ok) (h1 : rec _ (.mid E) first (.inl c) [] d = first.expect (.mid E)) (he : first.run = some e) (hE : E e = E')
  (h3 : (match E'.ok with
   | true => rec ρ F k (.inr E'.ex) K (E'.D d.n)
   | false => .stuck 64) = k.expect F) (hr : k.run = some r) : TV P G c d.st (Qx P G (goal P F r d.n) K) := by
 subst hE
 split at h3
 ·rename_i hok
  have key : TV P G c d.st (goal P (.mid E) e d.n) := hrec _ _ _ _ _ _ _ hd h1 he
  have hq : Rel P G (Qx P G (goal P F r d.n) K) (E e).ex ((E e).D d.n).st := hrec _ _ _ _ _ ((E e).D d.n) _ (extD_ok hok) h3 hr
  refine TV.rel key fun e' s hg => ?_
  obtain ⟨g1, g2, g3, g4⟩ := hg
  have f := ext_ghost (G := G) (s := s) hok g3 g4
  rw [g2] at f
  rw [g1]
  exact hq.ghost f
 ·exact absurd h3 (expect_ns _ _ _)
include hrec in
theorem sxB_spec {c : Code} (hd : d.Ok) (h : sxB rec F g c K d = g.expect F) (hr : g.run = some r) : TV P G c d.st (Qx P G (goal P F r d.n) K) := by
 unfold sxB at h
 split at h
 ·rename_i ε first E k
  simp only [T.expect, C.bind.injEq, heq_eq_eq, true_and] at h
  obtain ⟨h1, h2⟩ := h
  simp only [T.run] at hr
  split at hr
  ·rename_i e he
   exact bind_spec hrec hd h1 he rfl (congrFun h2 e) hr
  ·simp at hr
 ·rename_i ε ζ first E E2 k k2
  simp only [T.expect, C.bind2.injEq, heq_eq_eq, true_and] at h
  obtain ⟨h1, h2, h3⟩ := h
  simp only [T.run] at hr
  split at hr
  ·rename_i e he
   exact bind_spec hrec hd h1 he rfl (congrFun h2 e) hr
  ·rename_i e he
   exact bind_spec hrec hd h1 he rfl (congrFun h3 e) hr
  ·simp at hr
 ·rename_i ε ζ η first E E2 E3 k k2 k3
  simp only [T.expect, C.bind3.injEq, heq_eq_eq, true_and] at h
  obtain ⟨h1, h2, h3, h4⟩ := h
  simp only [T.run] at hr
  split at hr
  ·rename_i e he
   exact bind_spec hrec hd h1 he rfl (congrFun h2 e) hr
  ·rename_i e he
   exact bind_spec hrec hd h1 he rfl (congrFun h3 e) hr
  ·rename_i e he
   exact bind_spec hrec hd h1 he rfl (congrFun h4 e) hr
  ·simp at hr
 ·rename_i ε ζ j first E E2 k k2
  have hr' : (T.bind2 j first E E2 k k2).run = some r := by simp only [T.run] at hr ⊢; exact hr
  have ex' : (T.bind2 j first E E2 k k2).expect F = (T.bind2 (j + 1) first E E2 k k2).expect F := by simp only [T.expect]
  rw [← ex'] at h
  split at h
  ·exact TV.block (hrec _ _ _ _ _ _ _ hd h hr')
  ·exact TV.scopeN (hrec _ _ _ _ _ _ _ hd h hr')
  ·exact TV.loopOnce (hrec _ _ _ _ _ _ _ hd h hr')
  ·exact absurd h (expect_ns _ _ _)
 ·rename_i ε ζ η j first E E2 E3 k k2 k3
  have hr' : (T.bind3 j first E E2 E3 k k2 k3).run = some r := by simp only [T.run] at hr ⊢; exact hr
  have ex' : (T.bind3 j first E E2 E3 k k2 k3).expect F = (T.bind3 (j + 1) first E E2 E3 k k2 k3).expect F := by simp only [T.expect]
  rw [← ex'] at h
  split at h
  ·exact TV.block (hrec _ _ _ _ _ _ _ hd h hr')
  ·exact TV.scopeN (hrec _ _ _ _ _ _ _ hd h hr')
  ·exact TV.loopOnce (hrec _ _ _ _ _ _ _ hd h hr')
  ·exact absurd h (expect_ns _ _ _)
 ·rename_i ε j first E k
  have hr' : (T.bind j first E k).run = some r := by simp only [T.run] at hr ⊢; exact hr
  have ex' : (T.bind j first E k).expect F = (T.bind (j + 1) first E k).expect F := by simp only [T.expect]
  rw [← ex'] at h
  split at h
  ·exact TV.block (hrec _ _ _ _ _ _ _ hd h hr')
  ·exact TV.scopeN (hrec _ _ _ _ _ _ _ hd h hr')
  ·exact TV.loopOnce (hrec _ _ _ _ _ _ _ hd h hr')
  ·exact absurd h (expect_ns _ _ _)
 ·exact sxN_spec hrec hd h hr
include hrec in
theorem sxSub_spec {c : Code} (_ : d.Ok) (h : sxSub rec F g c K d = g.expect F) (hr : g.run = some r) : TV P G c d.st (Qx P G (goal P F r d.n) K) := by
 unfold sxSub at h
 split at h
 ·rename_i ε S k
  split at h
  ·rename_i hx
   simp only [T.expect, C.sub.injEq, heq_eq_eq, true_and] at h
   obtain ⟨h1, h2, h3, h4, h5⟩ := h
   simp only [T.run] at hr
   split at hr
   ·rename_i e he
    have h6 := congrFun h5 e
    split at h6
    ·rename_i hok
     have key := S.ok e he
     rw [← h1, ← h2] at key
     have hq : Rel P G (Qx P G (goal P F r d.n) K) (S.E e).ex ((S.E e).D d.n).st := hrec _ _ _ _ _ ((S.E e).D d.n) _ (extD_ok hok) h6 hr
     refine TV.ghost (ext_ghost (s := d.st) hx h3 h4) (TV.rel key fun e' s hg => ?_)
     obtain ⟨g1, g2⟩ := hg
     rw [g1]
     exact hq.ghost g2
    ·exact absurd h6 (expect_ns _ _ _)
   ·simp at hr
  ·exact absurd h (expect_ns _ _ _)
 ·exact absurd h (expect_ns _ _ _)
include hrec hm in
theorem sxC_spec {c : Code} (hd : d.Ok) (h : sxC kp rec F g c K d = g.expect F) (hr : g.run = some r) : TV P G c d.st (Qx P G (goal P F r d.n) K) := by
 unfold sxC at h
 split at h
 ·exact TV.skipR (hrec _ _ _ _ _ _ _ hd h hr)
 ·exact TV.labelR (hrec _ _ _ _ _ _ _ hd h hr)
 ·exact TV.exitR (hrec _ _ _ _ _ _ _ hd h hr)
 ·exact TV.retR (hrec _ _ _ _ _ _ _ hd h hr)
 ·split at h
  ·exact sxSub_spec hrec hd h hr
  ·exact TV.seq (hrec _ _ _ _ _ _ _ hd h hr)
 ·exact sxR_spec hm hrec hd h hr
 ·exact sxB_spec hrec hd h hr
theorem Post.ghost {Q : Exit → St → Prop} {cur : Code ⊕ Exit} {st st' : St} (g : Gst G st st') (h : Post P G Q cur K st') : Post P G Q cur K st := by
 cases cur with
 | inl c => exact TV.ghost g h
 | inr e => exact Rel.ghost (P := P) g h
include hrec hm in
theorem sxD_spec {cur : Code ⊕ Exit} (hd : d.Ok) (h : sxD kp rec F g cur K d = g.expect F) (hr : g.run = some r) : Post P G (goal P F r d.n) cur K d.st := by
 unfold sxD at h
 split at h
 ·exact sxE_spec hrec hd h hr
 ·exact sxC_spec hm hrec hd h hr
include hrec hm in
theorem sxS_spec {cur : Code ⊕ Exit} (hd : d.Ok) (h : sxS kp rec F g cur K d = g.expect F) (hr : g.run = some r) : Post P G (goal P F r d.n) cur K d.st := by
 unfold sxS at h
 split at h
 ·simp [T.run] at hr
 ·rename_i a w k
  split at h
  ·simp only [T.expect, C.gh.injEq] at h
   obtain ⟨h1, h2⟩ := h
   obtain ⟨d', x1, x2, x3, x4⟩ := ghX_spec (G := G) h2 (fun j => expect_ns F k j) h1 hd
   have := hrec _ _ _ _ _ _ _ x2 x1 (by simpa [T.run] using hr)
   rw [x4] at this
   exact this.ghost x3
  ·exact sxD_spec hm hrec hd h hr
 ·rename_i a b ty l n hs k
  split at h
  ·split at h
   ·rename_i kb hb hlow
    simp only [Bool.and_eq_true, decide_eq_true_eq] at hlow
    simp only [T.expect, C.hrow.injEq] at h
    obtain ⟨h1, _, h3⟩ := h
    simp only [T.run] at hr
    cases hc : decide (n ≤ l.length) with
    | false => rw [hc] at hr; simp at hr
    | true =>
     rw [hc] at hr
     obtain ⟨d', x1, x2, x3, x4⟩ := cutX_spec (G := G) h3 hd hb hlow.1 (smallB_spec hlow.2 hb) hs h1 (by simpa using hc)
     have := hrec _ _ _ _ _ _ _ x2 x1 (by simpa using hr)
     rw [x4] at this
     exact this.ghost x3
   ·exact absurd h (expect_ns F _ _)
  ·exact sxD_spec hm hrec hd h hr
 ·rename_i a b dd ty l j col z ty2 o hc hs k
  split at h
  ·split at h
   ·rename_i kb hb hu hub
    simp only [Bool.and_eq_true, decide_eq_true_eq] at hub
    simp only [T.expect, C.row.injEq, heq_eq_eq, true_and] at h
    obtain ⟨h1, h3⟩ := h
    simp only [T.run] at hr
    split at hr
    ·rename_i x hx
     obtain ⟨x1, x2⟩ := takeD_spec (G := G) (l := l) (o := o) (ty2 := ty2) hd hb hu hub.1 (hc x) hs h1 hx (smallB_spec hub.2.1 hb) hub.2.2
     have := hrec _ _ _ _ _ _ _ x1 (congrFun h3 x) hr
     exact this.ghost x2
    ·simp at hr
   ·exact absurd h (expect_ns F _ _)
  ·exact sxD_spec hm hrec hd h hr
 ·exact sxD_spec hm hrec hd h hr
end
theorem sx_ok {P : Program} {G : Nat → Option (List V)} {kp : List Nat} (hm : P.follows .mixedOrders = true) : ∀ n, RecOk (sx P G kp n)
 | 0 => fun _ F g _ _ _ _ _ h _ => absurd h (expect_ns F g 99)
 | n + 1 => fun _ _ _ _ _ _ _ hd h hr => sxS_spec hm (sx_ok hm n) hd h hr
def argTs (args : List V) : List (Nat × V) := args.zipIdx.map fun x => (x.2, x.1)
def fnC (P : Program) (G : Nat → Option (List V)) (kp : List Nat) (fn : Func) (args : List V) (x : Ext) {ρ : Type} (g : T P G ρ) (res : ρ → V) (outs : ρ → List (Nat × Blk)) : Bool × C :=
 (fn.body.isSome && (x.ok && x.bs.all fun p => decide (1000000 ≤ p.1)), sx P G kp 100000 ρ (.fn fn.results.toList res outs) g (.inl (fn.body.getD .skip)) [] (x.D (max fn.ntmps args.length)))
theorem argTs_find : ∀ (args : List V) (k i : Nat), (match ((args.zipIdx k).map fun x => (x.2, x.1)).find? (fun p => p.1 == i + k) with | some p => p.2 | none => V.undef) = args.getD i .undef
 | [], k, i => rfl
 | v :: args, k, i => by
  simp only [List.zipIdx_cons, List.map_cons]
  cases i with
  | zero => simp
  | succ i =>
   rw [List.find?_cons_of_neg (by simp)]
   have := argTs_find args (k + 1) i
   rw [show i + 1 + k = i + (k + 1) by omega]
   exact this
theorem callC_body {P : Program} {G : Nat → Option (List V)} {f : FuncId} {fn : Func} {c : Code} {n : Nat} {args : List V} {ins : Nat → Option Blk} {res : V} {outs : Nat → Option Blk}
  (hf : P.funcs[f]? = some fn) (hb : fn.body = some c) (hn : n = max fn.ntmps args.length) 
  (h : ∀ (γ : Gh) (a : Act) (w : World), Sim G γ (entry n args ins) a.tmps w → a.defers = [] → CW none P c (fun e a' w' => ∃ v0, coeV 8 res v0 = res ∧ Lift G ⟨none, [], true⟩ γ (entry n args ins) w (Done P fn.results.toList v0 outs) e a' w') a w) : CallC P G f args ins res outs := by
 intro γ w as hg ho ha hbl
 have hsz : as.size = args.length := ha.1
 have hs : Sim G γ (entry n args ins) (as ++ Array.replicate (fn.ntmps - as.size) undef) w := by
  refine ⟨by simp only [Array.size_append, Array.size_replicate, entry, hn]; omega, fun i => ?_, fun b k hk => (hbl b k hk).2, fun b k hk => (hbl b k hk).1, hg, ho⟩
  show Rep γ w ins uTop (args.getD i .undef) _
  by_cases hi : i < args.length
  ·have e1 : args.getD i .undef = args[i] := by simp [List.getD, List.getElem?_eq_getElem hi]
   have e2 : (as ++ Array.replicate (fn.ntmps - as.size) undef).getD i undef = as[i]'(by omega) := by
    rw [Array.getD_eq_getD_getElem?, Array.getElem?_append_left (by omega), Array.getElem?_eq_getElem (by omega)]; rfl
   rw [e1, e2]
   exact ha.2 i _ _ (List.getElem?_eq_getElem hi) (Array.getElem?_eq_getElem (by omega))
  ·have e1 : args.getD i .undef = .undef := by rw [List.getD_eq_getElem?_getD, List.getElem?_eq_none (by omega)]; rfl
   rw [e1]; exact .undef _
 refine (callsIn_wide (n := 0)).1 (callsIn_of_wp_marks hf hb trivial (wpIn_mono (h γ ⟨as ++ Array.replicate (fn.ntmps - as.size) undef, []⟩ w hs rfl) fun e a' w' hl => ?_))
 obtain ⟨v0, hv0, st', γ', h1, ⟨h2, h2p⟩, ⟨Ds, _, m1, m2, m3⟩, he, hr, hout⟩ := hl
 have ble : BsLe γ' st'.b st'.u γ' outs (fun _ => true) := by
  refine ⟨fun _ _ => rfl, fun b _ hn => ?_, fun b k hk => ⟨rfl, ?_⟩⟩
  ·cases ho : outs b with
   | none => rfl
   | some k => rw [hout b k ho] at hn; simp at hn
  ·cases ho : outs b with
   | none => exact .inl rfl
   | some k' =>
    have := hout b k' ho
    rw [hk] at this; simp only [Option.some.injEq] at this; subst this
    exact .inr ⟨_, rfl, rfl, fun _ => rfl, rfl⟩
 have fin : LeavesInM (RF none) 0 P fn a'.tmps (fun e w' => ∃ v γ', e = .returned v ∧ Grow γ w γ' w' ∧ Pin γ ins uTop γ' outs (fun _ => true) ∧ Rep γ' w' outs (fun _ => true) res v ∧
   (∀ b k, outs b = some k → BlkOk γ' w' outs (fun _ => true) b k) ∧ (∀ B x, γ'.own B = some x → B < w'.heap.size)) a'.defers .returning w' := by
  rw [m1, List.append_nil]
  refine leaves_marks (fun w'' => Sim G γ' st' a'.tmps w'' ∧ Grow γ w γ' w'') (fun w'' hI => ?_) Ds w' ⟨h1, h2⟩ m2 (fun D hD => (m3 D hD).2.1) fun D w'' hD hI hd =>
   ⟨(CellsSame.put hd rfl).sim hI.1, hI.2.put hd rfl (m3 D hD).1⟩
  obtain ⟨i1, i2⟩ := hI
  obtain ⟨v, hv, hrep⟩ := run_resultsV (P := P) i1 hr
  refine ⟨v, hv, v, γ', rfl, i2, h2p.trans ble.pin, (by have := coeV_rep 8 res v0 v (hrep.mono (.refl _ _) ble); rw [hv0] at this; exact this), fun b k hk => ?_, i1.o⟩
  rcases i1.b b k (hout b k hk) with h0 | hm | ⟨hM, B, o, cs, e, a1, a2, a3, a4, a5, a6, a7, a8⟩
  ·exact .inl h0
  ·exact .inr (.inl (hm.same rfl (fun B _ hB => ⟨hB, rfl⟩) fun c v hr => hr.mono (.refl _ _) ble))
  refine .inr (.inr ⟨hM, B, o, cs, e, a1, a2, a3, a4, a5, fun i c hc => ?_, a7, a8⟩)
  obtain ⟨x, b1, b2, b3, b4⟩ := a6 i c hc
  exact ⟨x, b1, b2.mono (.refl _ _) ble, b3, b4⟩
 rcases he with rfl | rfl
 ·exact fin
 ·exact fin
theorem fn_ok {P : Program} {G : Nat → Option (List V)} {kp : List Nat} (hm : P.follows .mixedOrders = true) {f : FuncId} {fn : Func} (hf : P.funcs[f]? = some fn) {args : List V} {x : Ext} (hx : x.ts = argTs args) {ρ : Type} {g : T P G ρ}
  {res : ρ → V} {outs : ρ → List (Nat × Blk)} (h : fnC P G kp fn args x g res outs = (true, g.expect (.fn fn.results.toList res outs))) : ∀ r, g.run = some r → CallC P G f args (ofL x.bs) (res r) (ofL (outs r)) := by
 intro r hr
 simp only [fnC, Prod.mk.injEq, Bool.and_eq_true, List.all_eq_true, decide_eq_true_eq] at h
 obtain ⟨⟨h1, h2, h3⟩, h4⟩ := h
 obtain ⟨c, hc⟩ := Option.isSome_iff_exists.1 h1
 rw [hc] at h4
 have key : TV P G c (x.D (max fn.ntmps args.length)).st (goal P (.fn fn.results.toList res outs) r _) := sx_ok hm 100000 _ _ _ _ _ _ _ (extD_ok h2) h4 hr
 have e : (x.D (max fn.ntmps args.length)).st = entry (max fn.ntmps args.length) args (ofL x.bs) := by
  unfold D.st Ext.D stOf entry
  simp only [St.mk.injEq, true_and]
  refine ⟨funext fun i => ?_, rfl, funext fun i => ?_⟩
  ·rw [hx]
   have := argTs_find args 0 i
   exact this
  ·cases hu : uTop i with
   | true => simp
   | false =>
    simp only [Bool.or_false]
    refine Bool.eq_false_iff.2 fun hc => ?_
    simp only [Ext.us, List.contains_eq_mem, decide_eq_true_eq] at hc
    obtain ⟨p, hp, rfl⟩ := List.mem_map.1 hc
    have := h3 p hp
    simp [uTop] at hu
    omega
 rw [e] at key
 intro γ w as hg ho ha hbl

 have key2 : ∀ (γ : Gh) (a : Act) (w : World), Sim G γ (entry (max fn.ntmps args.length) args (ofL x.bs)) a.tmps w → a.defers = [] →
   CW none P c (fun e a' w' => ∃ v0, coeV 8 (res r) v0 = res r ∧ Lift G ⟨none, [], true⟩ γ (entry (max fn.ntmps args.length) args (ofL x.bs)) w (Done P fn.results.toList v0 (ofL (outs r))) e a' w') a w := fun γ a w hs hd =>
  wpIn_mono (key ⟨none, [], true⟩ γ a w hs ⟨hd, rfl, fun _ h => by simp at h⟩) fun e a' w' hl => by
   obtain ⟨st', γ', k1, k2, k3, v0, k4, k5⟩ := hl
   exact ⟨v0, k4, st', γ', k1, k2, k3, k5⟩
 exact callC_body hf hc rfl key2 γ w as hg ho ha hbl
end Go.EV
namespace Go.EV
open Go
def FnD (P : Program) (G : Nat → Option (List V)) (kp : List Nat) (fn : Func) (args : List V) {ρ : Type} (g : T P G ρ) (res : ρ → V) : Prop :=
 fnC P G kp fn args (Ext.lit .normal (argTs args) []) g res (fun _ => []) = (true, g.expect (.fn fn.results.toList res fun _ => []))
def Spec.ofFn {P : Program} {G : Nat → Option (List V)} {kp : List Nat} (f : FuncId) {fn : Func} {args : List V} {ρ : Type} {g : T P G ρ} {res : ρ → V} (hm : P.follows .mixedOrders = true) (hf : P.funcs[f]? = some fn) (k : FnD P G kp fn args g res) : Spec P G ρ :=
 ⟨f, args, [], g.run, res, fun _ => [], [], fun _ _ h => by simp at h, fn_ok hm hf rfl k⟩
def FnB (P : Program) (G : Nat → Option (List V)) (kp : List Nat) (fn : Func) (args : List V) (x : Ext) {ρ : Type} (g : T P G ρ) (res : ρ → V) (O : ρ → Ext) : Prop :=
 fnC P G kp fn args x g res (fun r => (O r).bs) = (true, g.expect (.fn fn.results.toList res fun r => (O r).bs))
def Spec.ofFnB {P : Program} {G : Nat → Option (List V)} {kp : List Nat} (f : FuncId) {fn : Func} {args : List V} {x : Ext} {ρ : Type} {g : T P G ρ} {res : ρ → V} {O : ρ → Ext} (dt : List Nat) (hm : P.follows .mixedOrders = true) (hf : P.funcs[f]? = some fn) (hx : x.ts = argTs args)
  (hdt : ∀ r, ((O r).bs.all fun p => !dt.contains p.1 || (O r).dt.contains p.1) = true) (k : FnB P G kp fn args x g res O) : Spec P G ρ :=
 ⟨f, args, x.bs, g.run, res, fun r => (O r).bs, dt, fun r p hp hd => (O r).dat p hp (by
  have := List.all_eq_true.1 (hdt r) p hp
  simpa [hd] using this), fn_ok hm hf hx k⟩
def wi64 (n : Int) : Int := IntKind.i64.wrap n
def wu64 (n : Int) : Int := IntKind.u64.wrap n
def wu8 (n : Int) : Int := IntKind.u8.wrap n
def bs (l : List UInt8) : ByteArray := ⟨⟨l⟩⟩
def bAt (s : ByteArray) (i : Int) : Int := (s.data.getD i.toNat 0).toNat
def bShl (k : IntKind) (a b : Int) : Int := k.wrap (a * 2 ^ (min b.toNat k.bits))
def mlenn {α : Type} (t : Ty α) (l : List α) : Nat := (l.map t.c).length
def mlen {α : Type} (t : Ty α) (l : List α) : Int := (mlenn t l : Nat)
theorem mlenn_eq {α : Type} (t : Ty α) (l : List α) : mlenn t l = l.length := by simp [mlenn]
theorem mlen_eq {α : Type} (t : Ty α) (l : List α) : mlen t l = (l.length : Int) := by simp [mlen, mlenn]
def ReW.tmp (d : Nat) (a b : V) (h : a = b) : ReW := ⟨[.t d a], [.t d b], by rw [h], [], fun _ _ h => by simp at h⟩
def ReW.cutHi {α : Type} (d z : Nat) (t : Ty α) (l : List α) (h : Nat) : ReW := .tmp d (.sl false z (((l.map t.c).take h).drop 0)) (.sl false z ((l.take h).map t.c)) (by simp)
def ReW.put {α : Type} (i z : Nat) (t : Ty α) (l : List α) (j : Nat) (y : α) : ReW :=
 ⟨[.b i (some ⟨z, true, (l.map t.c).set j (t.c y)⟩)], [.b i (some ⟨z, true, (l.set j y).map t.c⟩)], by rw [List.map_set], [i], fun b k h _ => by
  simp only [List.mem_singleton, Wr.b.injEq, Option.some.injEq] at h
  obtain ⟨_, rfl⟩ := h
  exact t.data _⟩
end Go.EV
namespace Go.EV
open Go
def Ok {P : Program} {G : Nat → Option (List V)} {ρ : Type} (g : T P G ρ) (Q : ρ → Prop) : Prop := ∃ r, g.run = some r ∧ Q r
def SOk {P : Program} {G : Nat → Option (List V)} {ρ : Type} (s : Spec P G ρ) (Q : ρ → Prop) : Prop := ∃ r, s.o = some r ∧ Q r
section
variable {P : Program} {G : Nat → Option (List V)} {ρ : Type} {Q : ρ → Prop}
theorem SOk.of {s : Spec P G ρ} {r : ρ} (h : s.o = some r) : SOk s (fun x => x = r) := ⟨r, h, rfl⟩
theorem SOk.eq {s : Spec P G ρ} {r : ρ} (h : SOk s (fun x => x = r)) : s.o = some r := by obtain ⟨x, h1, rfl⟩ := h; exact h1
theorem Ok.done {r : ρ} (h : Q r) : Ok (.done r : T P G ρ) Q := ⟨r, rfl, h⟩
theorem Ok.br {a : Nat} {c : Bool} {x y : T P G ρ} (h1 : c = true → Ok x Q) (h2 : c = false → Ok y Q) : Ok (.br a c x y) Q := by
 cases c with
 | true => obtain ⟨r, e, hq⟩ := h1 rfl; exact ⟨r, e, hq⟩
 | false => obtain ⟨r, e, hq⟩ := h2 rfl; exact ⟨r, e, hq⟩
theorem Ok.tt {k : T P G ρ} (h : Ok k Q) : Ok (.tt k) Q := h
theorem Ok.ff {k : T P G ρ} (h : Ok k Q) : Ok (.ff k) Q := h
theorem Ok.re {a : Nat} {w : ReW} {k : T P G ρ} (h : Ok k Q) : Ok (.re a w k) Q := h
theorem Ok.gh {a : Nat} {w : GhW} {k : T P G ρ} (h : Ok k Q) : Ok (.gh a w k) Q := h
theorem Ok.chk {a : Nat} {c : Bool} {k : T P G ρ} (hc : c = true) (h : Ok k Q) : Ok (.chk a c k) Q := by
 subst hc; obtain ⟨r, e, hq⟩ := h; exact ⟨r, e, hq⟩
theorem Ok.row {α : Type} {a : Nat} {ty : Ty α} {l : List α} {j : Nat} {c : Bool} {k : α → T P G ρ} {x : α} (hc : c = true) (hx : l[j]? = some x) (h : Ok (k x) Q) : Ok (.row a ty l j c k) Q := by
 subst hc; obtain ⟨r, e, hq⟩ := h
 exact ⟨r, by simp only [T.run, cond_true, hx]; exact e, hq⟩
theorem Ok.cutg {α : Type} {a b : Nat} {ty : Ty α} {l : List α} {n : Nat} {hs : ∀ y, ty.c y = ty.d y} {k : T P G ρ} (hn : n ≤ l.length) (h : Ok k Q) : Ok (.cutg a b ty l n hs k) Q := by
 obtain ⟨r, e, hq⟩ := h
 exact ⟨r, by simp only [T.run, decide_eq_true hn, cond_true]; exact e, hq⟩
theorem Ok.app {α : Type} {a : Nat} {ty : Ty α} {l x : List α} {bytes : Nat} {fl : Bool} {hf : fl = true → ∀ y, ty.c y = ty.d y} {k : T P G ρ} (hn : (l.length + x.length) * bytes ≤ 140737488355328) (h : Ok k Q) : Ok (.app a ty l x bytes fl hf k) Q := by
 obtain ⟨r, e, hq⟩ := h
 exact ⟨r, by simp only [T.run, decide_eq_true hn, cond_true]; exact e, hq⟩
theorem Ok.call {α : Type} {a : Nat} {s : Spec P G α} {Li Lo : List (Nat × Nat)} {k : α → T P G ρ} {R : α → Prop} (hs : SOk s R) (h : ∀ r, R r → Ok (k r) Q) : Ok (.call a s Li Lo k) Q := by
 obtain ⟨x, e1, hr⟩ := hs
 obtain ⟨r, e, hq⟩ := h x hr
 exact ⟨r, by simp only [T.run, e1]; exact e, hq⟩
theorem Ok.view {α : Type} {a : Nat} {s : Spec P G α} {vs : List VwW} {k : α → T P G ρ} {R : α → Prop} (hs : SOk s R) (h : ∀ r, R r → Ok (k r) Q) : Ok (.view a s vs k) Q := by
 obtain ⟨x, e1, hr⟩ := hs
 obtain ⟨r, e, hq⟩ := h x hr
 exact ⟨r, by simp only [T.run, e1]; exact e, hq⟩
theorem Ok.call2 {α β : Type} {a : Nat} {s : Spec P G (α ⊕ β)} {Li Lo : List (Nat × Nat)} {k : α → T P G ρ} {k2 : β → T P G ρ} {R : α ⊕ β → Prop} (hs : SOk s R) (h : ∀ r, R (.inl r) → Ok (k r) Q) (h2 : ∀ r, R (.inr r) → Ok (k2 r) Q) : Ok (.call2 a s Li Lo k k2) Q := by
 obtain ⟨x, e1, hr⟩ := hs
 cases x with
 | inl x => obtain ⟨r, e, hq⟩ := h x hr; exact ⟨r, by simp only [T.run, e1]; exact e, hq⟩
 | inr x => obtain ⟨r, e, hq⟩ := h2 x hr; exact ⟨r, by simp only [T.run, e1]; exact e, hq⟩
theorem Ok.cnd {ε : Type} {id : Nat} {ts : List Nat} {first : T P G ε} {E : ε → List V} {k : ε → T P G ρ} {R : ε → Prop} (hf : Ok first R) (h : ∀ e, R e → Ok (k e) Q) : Ok (.cnd id ts first E k) Q := by
 obtain ⟨x, e1, hr⟩ := hf
 obtain ⟨r, e, hq⟩ := h x hr
 exact ⟨r, by simp only [T.run, e1]; exact e, hq⟩
theorem Ok.bind {ε : Type} {j : Nat} {first : T P G ε} {E : ε → Ext} {k : ε → T P G ρ} {R : ε → Prop} (hf : Ok first R) (h : ∀ e, R e → Ok (k e) Q) : Ok (.bind j first E k) Q := by
 obtain ⟨x, e1, hr⟩ := hf
 obtain ⟨r, e, hq⟩ := h x hr
 exact ⟨r, by simp only [T.run, e1]; exact e, hq⟩
theorem Ok.bind2 {ε ζ : Type} {j : Nat} {first : T P G (ε ⊕ ζ)} {E : ε → Ext} {E2 : ζ → Ext} {k : ε → T P G ρ} {k2 : ζ → T P G ρ} {R : ε ⊕ ζ → Prop} (hf : Ok first R) (h : ∀ e, R (.inl e) → Ok (k e) Q) (h2 : ∀ e, R (.inr e) → Ok (k2 e) Q) : Ok (.bind2 j first E E2 k k2) Q := by
 obtain ⟨x, e1, hr⟩ := hf
 cases x with
 | inl x => obtain ⟨r, e, hq⟩ := h x hr; exact ⟨r, by simp only [T.run, e1]; exact e, hq⟩
 | inr x => obtain ⟨r, e, hq⟩ := h2 x hr; exact ⟨r, by simp only [T.run, e1]; exact e, hq⟩
theorem Ok.ceq {a : Nat} {n : Int} {vs : List Int} {k : Int → T P G ρ} (hn : vs.contains n = true) (h : Ok (k n) Q) : Ok (.ceq a n vs k) Q := by
 obtain ⟨r, e, hq⟩ := h
 exact ⟨r, by simp only [T.run, hn, cond_true]; exact e, hq⟩
theorem iter_inv {σ ε : Type} {f : σ → Option (σ ⊕ ε)} (I : σ → Prop) (μ : σ → Nat) (R : ε → Prop)
  (step : ∀ x, I x → ∃ r, f x = some r ∧ (match r with | .inl y => I y ∧ μ y < μ x | .inr e => R e)) : ∀ n x, I x → μ x < n → ∃ e, iter f n x = some e ∧ R e
 | 0, x, _, h => absurd h (Nat.not_lt_zero _)
 | n + 1, x, hx, h => by
  have e1 : iter f (n + 1) x = (match f x with | none => none | some (.inl y) => iter f n y | some (.inr e) => some e) := rfl
  rw [e1]
  obtain ⟨r, hr, hq⟩ := step x hx
  rw [hr]
  cases r with
  | inl y => exact iter_inv I μ R step n y hq.1 (by have := hq.2; omega)
  | inr e => exact ⟨e, rfl, hq⟩
def Rnd {σ ε : Type} (I : σ → Prop) (μ : σ → Nat) (m : Nat) (R : ε → Prop) : σ ⊕ ε → Prop
 | .inl y => I y ∧ μ y < m
 | .inr e => R e
theorem Ok.lp {σ ε : Type} {S : σ → Ext} {body : σ → T P G (σ ⊕ ε)} {x : σ} {R : ε → Prop} (I : σ → Prop) (μ : σ → Nat) (hx : I x) (hm : μ x < FUEL) (step : ∀ y, I y → Ok (body y) (Rnd I μ (μ y) R)) : Ok (.lp S body x) R := by
 refine iter_inv I μ R (fun y hy => ?_) FUEL x hx hm
 obtain ⟨r, h1, h2⟩ := step y hy
 refine ⟨r, h1, ?_⟩
 cases r <;> exact h2
end
end Go.EV
