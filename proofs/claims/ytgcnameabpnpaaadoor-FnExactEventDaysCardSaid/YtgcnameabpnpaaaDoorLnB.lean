/-
  A step by step reading of the printed code by values, proved sound once (part 2): no statement of the seat stands here.
-/
import Derived.Test.YtgcnameabpnpaaaDoorLnA
import Derived.Laws.MakeOwn
import Derived.Laws.CopyRow
/- A pure operation, whichever it is. -/
set_option linter.unusedVariables false
set_option linter.unusedSimpArgs false
set_option linter.unusedSectionVars false
namespace Go.Ln
open Go
variable {w : World} {ρ : Own} {rt : Store} {N : Nat → Nat → Prop}

theorem ofConst_nh {c : Value} {v : V} (h : ofConst c = some v) : nh v := by
  unfold ofConst at h
  split at h <;> cases h <;> simp [nh, nhs]
theorem ofConsts_nh : ∀ {cs : List Value} {vs : List V}, ofConsts cs = some vs → nhs vs
  | [], vs, h => by simp [ofConsts] at h; subst h; simp [nhs]
  | c :: cs, vs, h => by
    simp only [ofConsts, Option.bind_eq_some_iff, Option.map_eq_some_iff] at h
    obtain ⟨x, hx, r, hr, rfl⟩ := h
    exact ⟨ofConst_nh hx, ofConsts_nh hr⟩
theorem zeroV_nh {c : Value} {v : V} (h : zeroV c = some v) : nh v := by
  unfold zeroV at h
  split at h
  · simp only [Option.map_eq_some_iff] at h
    obtain ⟨vs, hvs, rfl⟩ := h
    simpa [nh] using ofConsts_nh hvs
  · exact ofConst_nh h

def TmN (N : Nat → Nat → Prop) (tm : List V) : Prop := ∀ (i : Nat) v, tm[i]? = some v → noNew N v
def RtN (rt : Store) : Prop := ∀ o r, rt o = some r → nhs r.es

theorem ev_nn {st : St} (h : TmN N st.tm) {x : Operand} {v : V} (e : ev st x = some v) : noNew N v := by
  cases x with
  | tmp t => exact h t v e
  | const c => exact nh_noNew (zeroV_nh (c := c) e)
  | global g => simp [ev] at e
  | func f => simp [ev] at e; subst e; simp [noNew, noNews]
theorem evs_nn {st : St} (h : TmN N st.tm) : ∀ {xs : List Operand} {vs : List V}, evs st xs = some vs → noNews N vs
  | [], vs, e => by simp [evs] at e; subst e; simp [noNews]
  | x :: xs, vs, e => by
    simp only [evs, Option.bind_eq_some_iff, Option.map_eq_some_iff] at e
    obtain ⟨v, hv, ys, hys, rfl⟩ := e
    exact ⟨ev_nn h hv, evs_nn h hys⟩

theorem rowAt_nh : ∀ {p : List (Nat × Nat)} {s s' : Nat} {es es' : List V}, nhs es → rowAt p s es = some (s', es') → nhs es'
  | [], s, s', es, es', h, e => by simp [rowAt] at e; exact e.2 ▸ h
  | (i, k) :: p, s, s', es, es', h, e => by
    simp only [rowAt] at e
    split at e
    · cases e
    · rename_i v hv
      have hvn := nhs_get h hv
      split at e
      · rename_i s1 x hx
        have := nh_cell hvn hx
        exact rowAt_nh (by simpa [nh] using this) e
      · rename_i x hx
        have := nh_cell hvn hx
        exact rowAt_nh (by simpa [nh, nhs] using this) e
      · cases e
theorem look_nh (h : RtN rt) {o nv path s} {es : List V} (e : look rt o nv path = some (s, es)) : nhs es := by
  unfold look at e
  simp only [Option.bind_eq_some_iff] at e
  obtain ⟨r, hr, hrow⟩ := e
  exact rowAt_nh (h o r (valid_some hr).1) hrow
theorem view_nn {o nv : Nat} {path} {i k : Nat} {x : V} (ho : ¬ N o nv) (h : nh x) : noNew N (view o nv path i k x) := by
  cases x <;> simp only [view] <;> first | (simp only [noNew]; exact ho) | exact nh_noNew h
theorem from_nn (hr : RtN rt) (hN : ∀ o r, rt o = some r → ¬ N o r.nv) {p : V} {cs : List V} (hp : noNew N p) (h : from_ rt p = some cs) : noNews N cs := by
  unfold from_ at h
  split at h
  · rename_i e k
    cases h
    have : nh e := by simpa [noNew] using hp
    exact noNews_iff.2 fun v hv => nh_noNew (nhs_iff.1 (nh_cells this) v (List.mem_of_mem_drop hv))
  · rename_i o nv path s i k
    simp only [Option.bind_eq_some_iff] at h
    obtain ⟨r, hr', x, hx, h⟩ := h
    split at h
    · simp only [Option.map_eq_some_iff] at h
      obtain ⟨e, he, rfl⟩ := h
      have hes := rowAt_nh (hr o r (valid_some hr').1) hx
      have hen := nhs_get hes he
      refine noNews_iff.2 fun v hv => ?_
      obtain ⟨j, hj⟩ := List.mem_iff_getElem?.1 hv
      obtain ⟨y, hy, rfl⟩ := viewAll_get hj
      rw [List.getElem?_drop] at hy
      exact view_nn (hN o r (valid_some hr').1) (nh_cell hen hy)
    · cases h
  · cases h
theorem mkVal_nn {a : Bool} {cs : List V} {v : V} (h : mkVal a cs = some v) (hn : noNews N cs) : noNew N v := by
  unfold mkVal at h
  split at h
  · cases h; simpa [noNew] using hn
  · split at h
    · split at h <;> cases h
      exact hn.1
    · cases h
theorem take_nn {vs : List V} {n : Nat} (h : noNews N vs) : noNews N (vs.take n) := noNews_iff.2 fun v hv => noNews_iff.1 h v (List.mem_of_mem_take hv)
theorem drop_nn {vs : List V} {n : Nat} (h : noNews N vs) : noNews N (vs.drop n) := noNews_iff.2 fun v hv => noNews_iff.1 h v (List.mem_of_mem_drop hv)
theorem plain_nh {v : V} (h : plainV v = true) (hn : noNew N v) : nh v := by
  unfold plainV at h
  split at h <;> first | (simp [nh, nhs]; done) | (simpa [nh, noNew] using hn) | cases h
theorem plains_nh {v : V} (h : (cells v).all plainV = true) (hn : noNew N v) : nh v := by
  by_cases ha : isAggV v = true
  · cases v <;> simp [isAggV] at ha
    rename_i cs
    simp only [nh]
    refine nhs_iff.2 fun x hx => plain_nh (List.all_eq_true.1 h x hx) (noNews_iff.1 (by simpa [noNew] using hn) x hx)
  · have hc : cells v = [v] := by cases v <;> simp_all [cells, isAggV]
    rw [hc] at h
    exact plain_nh (by simpa using h) hn
theorem fill_nn {place : Nat → Option (Nat × Nat)} : ∀ {pv : List (Nat × V)} {cs cs' : List V}, noNews N cs → (∀ p ∈ pv, noNew N p.2) → fillV place cs pv = some cs' → noNews N cs'
  | [], cs, cs', h, _, e => by simp [fillV] at e; exact e ▸ h
  | (i, v) :: pv, cs, cs', h, hp, e => by
    simp only [fillV] at e
    split at e
    · cases e
    · rename_i off size hpl
      split at e
      · refine fill_nn ?_ (fun p hp' => hp p (by simp [hp'])) e
        refine noNews_iff.2 fun x hx => ?_
        simp only [List.mem_append] at hx
        rcases hx with (hx | hx) | hx
        · exact noNews_iff.1 (take_nn h) x hx
        · exact noNews_iff.1 (noNew_cells (hp (i, v) (by simp))) x hx
        · exact noNews_iff.1 (drop_nn h) x hx
      · cases e
theorem evParts_nn {st : St} (h : TmN N st.tm) : ∀ {ps : List (Nat × Operand)} {pv : List (Nat × V)}, evParts st ps = some pv → ∀ p ∈ pv, noNew N p.2
  | [], pv, e => by simp [evParts] at e; subst e; simp
  | (i, x) :: ps, pv, e => by
    simp only [evParts, Option.bind_eq_some_iff, Option.map_eq_some_iff] at e
    obtain ⟨v, hv, r, hr, rfl⟩ := e
    intro p hp
    simp only [List.mem_cons] at hp
    rcases hp with rfl | hp
    · exact ev_nn h hv
    · exact evParts_nn h hr p hp

/-- The operations that turn nothing. -/
def pureOp : Op → Bool
  | .move _ | .assign _ | .pick .. | .build .. | .load .. | .nilCheck _ | .unOp .. | .convert .. | .makeInterface .. | .makeFunc .. | .slice .. | .fieldAddr .. | .field .. | .indexAddr .. | .index .. | .extract .. => true
  | .binOp .. => true
  | .call { callee := .builtin b, .. } => match b with
    | .len => true
    | .min => true
    | .max => true
    | _ => false
  | _ => false

section
variable {P : Program} {E : Env} (A : Agree P E) {st : St} {a : Act} {o : Oper} (H : RtOk w ρ st.rt) (J : Inj ρ) (T : TmOk w ρ st.rt st.tm a.tmps) (hm : TmN N st.tm) (hr : RtN st.rt)
include A H J T hm hr

omit hm hr in
theorem binAgg_run {op : BinOp} {t t' : TypeId} {x y : Operand} {xs : List V} {n v : V} {lit : Bool} (ho : o.op = .binOp op t x y t') (hx : ev st x = some (.agg xs)) (hy : ev st y = some n) (h : binV E op t (.agg xs) n lit = some v) : Gives P a.eval o w ρ st.rt v ∧ nh v := by
  have agg : ∀ {ys : List V} {b : Bool} {ti : TI} {fs : Array Field}, n = .agg ys → E.ty t = some ti → ti.desc = .struct fs → E.eqs.contains t = true → flatEq E.ty 0 fs.toList xs ys = some b → ((op = .eql ∧ v = .bool b) ∨ (op = .neq ∧ v = .bool !b)) → Gives P a.eval o w ρ st.rt v ∧ nh v := by
    intro ys b ti fs hn ht hd hq hf hv
    subst hn
    obtain ⟨g, hxu, hxg⟩ := slot_agg (ev_rep T hx)
    obtain ⟨g', hyu, hyg⟩ := slot_agg (ev_rep T hy)
    obtain ⟨h1, h2⟩ := aggEq_run A ht hd hq hf hxg hyg
    have hgd : (eqGuard op t x y (.agg (arrOf xs.length g)) (.agg (arrOf ys.length g'))).run P w = .ok () w := run_eqGuard_agg w op t x y _ _ h2
    rcases hv with ⟨rfl, rfl⟩ | ⟨rfl, rfl⟩
    · exact ⟨⟨.bool b, by simp [execOp, ho, hxu, hyu, hgd, binOp, h1], mk_bool _⟩, by simp [nh]⟩
    · exact ⟨⟨.bool !b, by simp [execOp, ho, hxu, hyu, hgd, binOp, h1], mk_bool _⟩, by simp [nh]⟩
  cases n <;> simp only [binV] at h
  case agg ys =>
    split at h
    · rename_i fs hti
      split at h
      · rename_i hc
        simp only [Option.map_eq_some_iff] at h
        obtain ⟨b, hb, rfl⟩ := h
        exact agg rfl hti rfl hc hb (.inl ⟨rfl, rfl⟩)
      · cases h
    · rename_i fs hti
      split at h
      · rename_i hc
        simp only [Option.map_eq_some_iff] at h
        obtain ⟨b, hb, rfl⟩ := h
        exact agg rfl hti rfl hc hb (.inr ⟨rfl, rfl⟩)
      · cases h
    · cases h
  all_goals
    split at h
    · split at h
      · rename_i hc
        simp only [Bool.and_eq_true] at hc
        rename_i d _
        have := hc.1
        cases d <;> simp [nilFit] at this
      · cases h
    · cases h

theorem binV_run {op : BinOp} {t t' : TypeId} {x y : Operand} {m n v : V} (ho : o.op = .binOp op t x y t') (hx : ev st x = some m) (hy : ev st y = some n) (h : binV E op t m n (isLit x || isLit y) = some v) (hna : isAggV m = false) : Gives P a.eval o w ρ st.rt v ∧ nh v := by
  unfold binV at h
  split at h
  · rename_i k m k' n
    refine ⟨g_binInt A H J T ho hx hy h, ?_⟩
    unfold intOp2 at h
    split at h
    · split at h <;> cases h; simp [nh]
    · split at h <;> cases h; simp [nh]
    · split at h
      · unfold intOp at h
        split at h <;> first | (cases h; simp [nh]; done) | (split at h <;> cases h; simp [nh]; done) | skip
        simp only [intBits] at h
        split at h <;> cases h <;> simp [nh]
      · cases h
  · refine ⟨g_binStr A H J T ho hx hy h, ?_⟩
    unfold strOp at h
    split at h <;> first | (cases h; simp [nh]; done) | (cases h; done) | (split at h <;> cases h; simp [nh]; done)
  · split at h
    · cases h
      rename_i hd
      exact ⟨g_binBool A H J T ho hx hy hd (.inl ⟨rfl, rfl⟩), by simp [nh]⟩
    · cases h
      rename_i hd
      exact ⟨g_binBool A H J T ho hx hy hd (.inr ⟨rfl, rfl⟩), by simp [nh]⟩
    · cases h
  · simp [isAggV] at hna
  · split at h
    · rename_i d hd
      split at h
      · rename_i hc
        simp only [Bool.and_eq_true, Bool.or_eq_true] at hc
        split at h
        · simp only [Option.map_eq_some_iff] at h
          obtain ⟨b, hb, rfl⟩ := h
          exact ⟨g_binNil A H J T ho hx hy hd hc.1 hb (fun hi => by rcases hc.2 with h2 | h2; · simpa using h2
                                                                    · simp [hi] at h2) (.inl ⟨rfl, rfl⟩), by simp [nh]⟩
        · simp only [Option.map_eq_some_iff] at h
          obtain ⟨b, hb, rfl⟩ := h
          exact ⟨g_binNil A H J T ho hx hy hd hc.1 hb (fun hi => by rcases hc.2 with h2 | h2; · simpa using h2
                                                                    · simp [hi] at h2) (.inr ⟨rfl, rfl⟩), by simp [nh]⟩
        · cases h
      · cases h
    · cases h

theorem sliceV_nn {t : TypeId} {x v : V} {lo hi : Option V} (h : sliceV E st.rt t x lo hi = some v) (hx : noNew N x) : noNew N v := by
  unfold sliceV at h
  split at h
  · simp only [Option.bind_eq_some_iff] at h
    obtain ⟨_, _, _, _, h⟩ := h
    split at h <;> cases h
    simp [noNew]
  · simp only [Option.bind_eq_some_iff] at h
    obtain ⟨_, _, _, _, _, _, h⟩ := h
    split at h <;> cases h
    simp only [noNew] at hx ⊢
    exact nhs_iff.2 fun v hv => nhs_iff.1 hx v (List.mem_of_mem_drop (List.mem_of_mem_take hv))
  · split at h
    · simp only [Option.bind_eq_some_iff] at h
      obtain ⟨_, _, _, _, h⟩ := h
      split at h <;> cases h
      simpa [noNew] using hx
    · cases h
  · cases h

theorem idxAddr_nn {t : TypeId} {x v : V} {i : Int} (h : idxAddr E t x i = some v) (hx : noNew N x) : noNew N v := by
  unfold idxAddr at h
  split at h
  · split at h
    · simp only [Option.bind_eq_some_iff] at h
      obtain ⟨el, hel, h⟩ := h
      split at h <;> cases h
      simp only [noNew] at hx ⊢
      exact nhs_get hx hel
    · cases h
  · split at h <;> cases h
    simpa [noNew] using hx
  · simp only [Option.bind_eq_some_iff] at h
    obtain ⟨_, _, h⟩ := h
    split at h <;> cases h
    simpa [noNew] using hx
  · simp only [Option.bind_eq_some_iff] at h
    obtain ⟨_, _, h⟩ := h
    split at h <;> cases h
    simpa [noNew] using hx
  · cases h

/-- A pure operation, whichever it is. -/
theorem opPure (hN : ∀ o r, st.rt o = some r → ¬ N o r.nv) {id : Nat} {v : V} {rt' : Store} (hp : pureOp o.op = true) (h : opV E id st o.op = some (v, rt')) : rt' = st.rt ∧ Gives P a.eval o w ρ st.rt v ∧ noNew N v := by
  cases hop : o.op with
  | move x =>
    rw [hop] at h
    simp only [opV, Option.map_eq_some_iff] at h
    obtain ⟨u, hu, h⟩ := h
    cases h
    exact ⟨rfl, g_move A H J T hop hu, ev_nn hm hu⟩
  | assign x =>
    rw [hop] at h
    simp only [opV, Option.map_eq_some_iff] at h
    obtain ⟨u, hu, h⟩ := h
    cases h
    exact ⟨rfl, g_assign A H J T hop hu, ev_nn hm hu⟩
  | pick c x y =>
    rw [hop] at h
    simp only [opV, Option.bind_eq_some_iff, Option.map_eq_some_iff] at h
    obtain ⟨cv, hcv, u, hu, h⟩ := h
    cases h
    split at hu
    · exact ⟨rfl, g_pick A H J T (b := true) hop hcv (by simpa using hu), ev_nn hm hu⟩
    · exact ⟨rfl, g_pick A H J T (b := false) hop hcv (by simpa using hu), ev_nn hm hu⟩
    · cases hu
  | build t ps =>
    rw [hop] at h
    simp only [opV, Option.bind_eq_some_iff, Option.map_eq_some_iff] at h
    obtain ⟨pv, hpv, u, hu, h⟩ := h
    cases h
    refine ⟨rfl, g_build A T hop hpv hu, ?_⟩
    unfold buildV at hu
    split at hu
    · simp only [Option.bind_eq_some_iff] at hu
      obtain ⟨z, hz, hu⟩ := hu
      have hzn : noNews N (cells z) := noNew_cells (nh_noNew (zeroV_nh hz))
      split at hu
      · simp only [Option.bind_eq_some_iff, Option.map_eq_some_iff] at hu
        obtain ⟨_, _, cs, hcs, rfl⟩ := hu
        simpa [noNew] using fill_nn hzn (evParts_nn hm hpv) hcs
      · simp only [Option.bind_eq_some_iff, Option.map_eq_some_iff] at hu
        obtain ⟨_, _, cs, hcs, rfl⟩ := hu
        simpa [noNew] using fill_nn hzn (evParts_nn hm hpv) hcs
      · cases hu
    · cases hu
  | load t p =>
    rw [hop] at h
    simp only [opV, Option.bind_eq_some_iff] at h
    obtain ⟨ti, hti, pv, hpv, cs, hcs, h⟩ := h
    split at h
    · rename_i hc
      simp only [Option.map_eq_some_iff] at h
      obtain ⟨u, hu, h⟩ := h
      cases h
      exact ⟨rfl, g_load A H J T hop hti hpv hcs hc.2 hc.1 hu, mkVal_nn hu (take_nn (from_nn hr hN (ev_nn hm hpv) hcs))⟩
    · cases h
  | nilCheck x =>
    rw [hop] at h
    simp only [opV, Option.bind_eq_some_iff] at h
    obtain ⟨u, hu, h⟩ := h
    split at h
    · split at h <;> cases h
      rename_i hl
      exact ⟨rfl, g_nilCheck A H J T hop hu hl, ev_nn hm hu⟩
    · cases h
      exact ⟨rfl, g_nilCheck A H J T hop hu trivial, ev_nn hm hu⟩
    · cases h
  | unOp op t x =>
    rw [hop] at h
    simp only [opV, Option.bind_eq_some_iff, Option.map_eq_some_iff] at h
    obtain ⟨u, hu, v', hv, h⟩ := h
    cases h
    refine ⟨rfl, g_unOp A H J T hop hu hv, ?_⟩
    unfold unV at hv
    split at hv
    · split at hv <;> cases hv; simp [noNew]
    · split at hv
      · cases hv; simp [noNew]
      · simp only [intBits] at hv; cases hv; simp [noNew]
      · cases hv
    · cases hv
  | convert s d x =>
    rw [hop] at h
    simp only [opV, Option.bind_eq_some_iff, Option.map_eq_some_iff] at h
    obtain ⟨u, hu, v', hv, h⟩ := h
    cases h
    unfold convV at hv
    split at hv
    · rename_i hs hd
      cases hv
      exact ⟨rfl, g_convInt A H J T hop hu hs hd, by simp [noNew]⟩
    · rename_i hs hd
      cases hv
      exact ⟨rfl, g_convStr A H J T hop hu hs hd, by simp [noNew]⟩
    · rename_i e0 hs hd
      split at hv
      · rename_i h8
        simp only [Option.bind_eq_some_iff, Option.map_eq_some_iff] at hv
        obtain ⟨es, hes, bs, hbs, rfl⟩ := hv
        exact ⟨rfl, g_convBytes A H J T hop hu hs hd h8 hes hbs, by simp [noNew]⟩
      · cases hv
    · cases hv
  | makeInterface t x =>
    rw [hop] at h
    simp only [opV, Option.bind_eq_some_iff] at h
    obtain ⟨u, hu, h⟩ := h
    split at h
    · rename_i hpl
      split at h
      · cases h
      · rename_i d hd' hd
        cases h
        have hi : isIfaceD d = false := by cases d <;> first | rfl | exact (hd' _ rfl).elim
        exact ⟨rfl, g_makeInterface A H J T hop hu hd hi, by simpa [noNew] using plains_nh hpl (ev_nn hm hu)⟩
      · cases h
    · cases h
  | makeFunc fn first caps =>
    rw [hop] at h
    cases fn <;> simp only [opV] at h <;> first | (cases h; done) | skip
    rename_i f
    split at h
    · rename_i h0
      simp only [Option.bind_eq_some_iff] at h
      obtain ⟨vs, hvs, h⟩ := h
      split at h
      · rename_i hall
        cases h
        exact ⟨rfl, g_makeFunc A H J T hop h0 hvs (fun v hv => by simpa using List.all_eq_true.1 hall v hv), by simpa [noNew] using evs_nn hm hvs⟩
      · cases h
    · cases h
  | slice t x lo hi mx =>
    rw [hop] at h
    cases mx with
    | some m => simp [opV] at h
    | none =>
      simp only [opV, Option.bind_eq_some_iff] at h
      obtain ⟨xv, hx, l, hl, hh, hhh, h⟩ := h
      split at h
      · rename_i hal
        simp only [Option.map_eq_some_iff] at h
        obtain ⟨u, hu, h⟩ := h
        cases h
        exact ⟨rfl, g_slice A H J T hop hx hl hhh hal hu, sliceV_nn A H J T hm hr hu (ev_nn hm hx)⟩
      · cases h
  | fieldAddr s x f =>
    rw [hop] at h
    simp only [opV, Option.bind_eq_some_iff] at h
    obtain ⟨xv, hx, fl, hf, h⟩ := h
    split at h
    · split at h <;> cases h
      rename_i hc
      exact ⟨rfl, g_fieldAddr A H J T hop hx hf hc.1 ⟨rfl, rfl⟩, by simpa [noNew] using ev_nn hm hx⟩
    · split at h <;> cases h
      rename_i hc
      exact ⟨rfl, g_fieldAddr A H J T hop hx hf hc.1 ⟨rfl, rfl, rfl, rfl, rfl, rfl, hc.2.2⟩, by simpa [noNew] using ev_nn hm hx⟩
    · cases h
  | field s x f =>
    rw [hop] at h
    simp only [opV, Option.bind_eq_some_iff] at h
    obtain ⟨xv, hx, fl, hf, h⟩ := h
    split at h
    · split at h
      · rename_i hc
        simp only [Option.map_eq_some_iff] at h
        obtain ⟨u, hu, h⟩ := h
        cases h
        have hn := ev_nn hm hx
        exact ⟨rfl, g_field A H J T hop hx hf rfl hc hu, mkVal_nn hu (take_nn (drop_nn (by simpa [noNew] using hn)))⟩
      · cases h
    · cases h
  | indexAddr t x i =>
    rw [hop] at h
    simp only [opV, Option.bind_eq_some_iff] at h
    obtain ⟨xv, hx, iv, hi, h⟩ := h
    split at h
    · split at h
      · rename_i hal
        simp only [Option.map_eq_some_iff] at h
        obtain ⟨u, hu, h⟩ := h
        cases h
        exact ⟨rfl, g_indexAddr A H J T hop hx hi hal hu, idxAddr_nn A H J T hm hr hu (ev_nn hm hx)⟩
      · cases h
    · cases h
  | index t x i =>
    rw [hop] at h
    simp only [opV, Option.bind_eq_some_iff] at h
    obtain ⟨xv, hx, iv, hi, h⟩ := h
    split at h
    · simp only [Option.map_eq_some_iff] at h
      obtain ⟨u, hu, h⟩ := h
      cases h
      unfold idxV at hu
      split at hu
      · rename_i hti
        split at hu
        · rename_i h0
          simp only [Option.map_eq_some_iff] at hu
          obtain ⟨c, hc, rfl⟩ := hu
          exact ⟨rfl, g_indexStr A H J T hop hx hi (by simp [Env.desc, hti]) h0 hc, by simp [noNew]⟩
        · cases hu
      · cases hu
    · cases h
  | extract x i =>
    rw [hop] at h
    simp only [opV, Option.bind_eq_some_iff] at h
    obtain ⟨xv, hx, h⟩ := h
    split at h
    · simp only [Option.map_eq_some_iff] at h
      obtain ⟨u, hu, h⟩ := h
      cases h
      exact ⟨rfl, g_extract A H J T hop hx hu, noNews_get (by simpa [noNew] using ev_nn hm hx) hu⟩
    · cases h
  | binOp op t x y t' =>
    rw [hop] at h
    simp only [opV, Option.bind_eq_some_iff, Option.map_eq_some_iff] at h
    obtain ⟨xv, hx, yv, hy, u, hu, h⟩ := h
    cases h
    by_cases hna : isAggV xv = true
    · cases xv <;> first | (simp [isAggV] at hna; done) | skip
      have := binAgg_run A H J T hop hx hy hu
      exact ⟨rfl, this.1, nh_noNew this.2⟩
    · have := binV_run A H J T hm hr hop hx hy hu (by simpa using hna)
      exact ⟨rfl, this.1, nh_noNew this.2⟩
  | call c =>
    obtain ⟨cal, args, ts⟩ := c
    rw [hop] at h hp
    cases cal <;> simp only [pureOp] at hp <;> first | (cases hp; done) | skip
    rename_i b
    simp only [opV, callOp, Option.bind_eq_some_iff] at h
    obtain ⟨vs, hvs, h⟩ := h
    cases b <;> first | (simp only [Bool.false_eq_true] at hp; done) | skip
    case len =>
      match vs, hvs, h with
      | [xv], hvs, h =>
        simp only [builtinV] at h
        split at h
        · rename_i hal
          simp only [Option.bind_eq_some_iff, Option.map_eq_some_iff] at h
          obtain ⟨t, ht, u, hu, h⟩ := h
          cases h
          obtain ⟨hl, _⟩ := evs_rep T hvs
          obtain ⟨x0, hx0⟩ : ∃ x0, args = #[x0] := by
            have : args.size = 1 := by simpa using hl.symm
            exact ⟨args[0], Array.ext (by simp [this]) (fun i h1 h2 => by
              have : i = 0 := by simp at h2; exact h2
              subst this; rfl)⟩
          subst hx0
          simp only [evs, Option.bind_eq_some_iff, Option.map_eq_some_iff] at hvs
          obtain ⟨x1, hx1, _, hq, hvs⟩ := hvs
          cases hq
          cases hvs
          refine ⟨rfl, g_len A H J T hop ht hx1 hal hu, ?_⟩
          unfold lenV at hu
          split at hu <;> first | (split at hu <;> cases hu; simp [noNew]; done) | cases hu
        · cases h
      | [], _, h => simp [builtinV] at h
      | _ :: _ :: _, _, h => simp [builtinV] at h
    case min =>
      simp only [builtinV, Option.map_eq_some_iff] at h
      obtain ⟨u, hu, h⟩ := h
      cases h
      refine ⟨rfl, g_minmax T hop (.inl ⟨rfl, rfl⟩) hvs hu, ?_⟩
      unfold foldV at hu
      split at hu
      · simp only [Option.map_eq_some_iff] at hu
        obtain ⟨m, _, rfl⟩ := hu
        simp [noNew]
      · cases hu
    case max =>
      simp only [builtinV, Option.map_eq_some_iff] at h
      obtain ⟨u, hu, h⟩ := h
      cases h
      refine ⟨rfl, g_minmax T hop (.inr ⟨rfl, rfl⟩) hvs hu, ?_⟩
      unfold foldV at hu
      split at hu
      · simp only [Option.map_eq_some_iff] at hu
        obtain ⟨m, _, rfl⟩ := hu
        simp [noNew]
      · cases hu
  | _ => rw [hop] at hp; simp [pureOp] at hp
end
end Go.Ln
/- A row inside a tree is replaced: the tree goes on reading. -/
set_option linter.unusedVariables false
set_option linter.unusedSimpArgs false
set_option linter.unusedSectionVars false
namespace Go.Ln
open Go
variable {w w' : World} {ρ ρ' : Own} {rt rt' : Store} {New : Nat → Nat → Prop}

theorem cells_one {v : V} (hv : isAggV v = false) : cells v = [v] := by cases v <;> simp_all [cells, isAggV]
theorem setCellV_one {e v : V} {k : Nat} (he : isAggV e = false) : setCellV e k v = v := by cases e <;> simp_all [setCellV, isAggV]
theorem cells_setCellV {e v x : V} {k k' : Nat} (hx : (cells e)[k]? = some x) (hv : isAggV v = false) : (cells (setCellV e k v))[k']? = if k' = k then some v else (cells e)[k']? := by
  have hk := (List.getElem?_eq_some_iff.1 hx).1
  by_cases he : isAggV e = true
  · cases e <;> simp [isAggV] at he
    rename_i cs
    simp only [setCellV, cells] at hk ⊢
    by_cases h : k' = k
    · subst h; simp [hk]
    · rw [if_neg h, List.getElem?_set_ne (by omega)]
  · have he' : isAggV e = false := by simpa using he
    rw [cells_one he'] at hk ⊢
    have hk0 : k = 0 := by simpa using hk
    subst hk0
    rw [setCellV_one he', cells_one hv]
    cases k' <;> simp
theorem cells_setCellV_length {e v : V} {k : Nat} (hk : k < (cells e).length) (hv : isAggV v = false) : (cells (setCellV e k v)).length = (cells e).length := by
  by_cases he : isAggV e = true
  · cases e <;> simp [isAggV] at he
    simp [setCellV, cells]
  · have he' : isAggV e = false := by simpa using he
    rw [setCellV_one he', cells_one hv, cells_one he']
    rfl

theorem setRow_length {new : List V} : ∀ {p : List (Nat × Nat)} {s s1 : Nat} {es es' old : List V}, rowAt p s es = some (s1, old) → setRow new p es = some es' → new.length = old.length → es'.length = es.length
  | [], s, s1, es, es', old, h, e, hl => by simp [rowAt] at h; simp [setRow] at e; rw [← e, hl, ← h.2]
  | (i, k) :: p, s, s1, es, es', old, h, e, hl => by
    simp only [setRow] at e
    split at e
    · cases e
    · split at e
      · simp only [Option.map_eq_some_iff] at e
        obtain ⟨y, _, rfl⟩ := e
        simp
      · simp only [Option.bind_eq_some_iff] at e
        obtain ⟨y, _, e⟩ := e
        split at e <;> cases e
        simp
      · cases e

/-- Readings below a place last where labels and blocks below it last. -/
theorem RepV.under (K : Keep New w ρ rt w' ρ' rt') {o : Nat} {q : List (Nat × Nat)} (hU : ∀ b l, ρ b = some (o, l) → q <+: l → ρ' b = some (o, l) ∧ w'.heap[b]? = w.heap[b]?) {v : V} {u : Value}
    (h : RepV w ρ rt (some (o, q)) v u) (hn : nh v) : RepV w' ρ' rt' (some (o, q)) v u := by
  have := h.mono K id (fun l => l.1 = o ∧ q <+: l.2) (fun _ _ _ _ => rfl) (fun l i k hl => ⟨hl.1, hl.2.trans (by simp [Loc.at])⟩) (fun b l hl hb => by
    obtain ⟨l1, l2⟩ := l
    obtain ⟨rfl, hl2⟩ := hl
    exact hU b l2 hb hl2) (fun l hl => by cases hl; exact ⟨rfl, List.prefix_refl _⟩) (nh_noNew hn)
  simpa using this

theorem pre_ne {q p0 : List (Nat × Nat)} {x y : Nat × Nat} {l p : List (Nat × Nat)} (h1 : p0 ++ [x] <+: l) (hne : x ≠ y) : ¬ p0 ++ y :: p <+: l := by
  rintro ⟨t, ht⟩
  obtain ⟨t', ht'⟩ := h1
  rw [← ht'] at ht
  simp only [List.append_assoc, List.cons_append, List.append_cancel_left_eq, List.nil_append] at ht
  injection ht with h _
  exact hne h.symm

/-- A row inside a tree is replaced by one of the same length. -/
theorem rowOk_set (K : Keep New w ρ rt w' ρ' rt') (J' : Inj ρ') {o s1 : Nat} {new old : List V} (hlen : new.length = old.length) : ∀ {p p0 : List (Nat × Nat)} {s : Nat} {es es' : List V}, RowOk w ρ rt (o, p0) s es → nhs es →
    rowAt p s es = some (s1, old) → setRow new p es = some es' →
    (∀ b l, ρ b = some (o, l) → p0 <+: l → ¬ (p0 ++ p) <+: l → ρ' b = some (o, l) ∧ w'.heap[b]? = w.heap[b]?) →
    (∀ b arr T, ρ b = some (o, p0 ++ p) → w.heap[b]? = some (.cells arr T (0, 0)) → ρ' b = some (o, p0 ++ p) ∧ ∃ arr' T', w'.heap[b]? = some (.cells arr' T' (0, 0)) ∧ arr'.size = arr.size) →
    RowOk w' ρ' rt' (o, p0 ++ p) s1 new → RowOk w' ρ' rt' (o, p0) s es'
  | [], p0, s, es, es', h, hn, hr, he, hU, hS, hR => by
    simp [rowAt] at hr
    simp [setRow] at he
    obtain ⟨rfl, rfl⟩ := hr
    subst he
    simpa using hR
  | (i, k) :: p, p0, s, es, es', h, hn, hr, he, hU, hS, hR => by
    simp only [rowAt] at hr
    simp only [setRow] at he
    cases hei : es[i]? with
    | none => simp [hei] at he
    | some e =>
      simp only [hei] at he hr
      rcases h with rfl | ⟨b, arr, T, g, h1, h2, h3, h4, h5⟩
      · simp at hei
      have hen := nhs_get hn hei
      have hb := hU b p0 h1 (List.prefix_refl _) (by rintro ⟨t, ht⟩; have := congrArg List.length ht; simp at this)
      have hil := (List.getElem?_eq_some_iff.1 hei).1
      -- the new element, and what it holds at the cell
      have main : ∀ (x v : V) , (cells e)[k]? = some x → isAggV v = false → RepV w' ρ' rt' (some (o, p0 ++ [(i, k)])) v (g i k) → RowOk w' ρ' rt' (o, p0) s (es.set i (setCellV e k v)) := by
        intro x v hx hva hv
        refine .inr ⟨b, arr, T, g, hb.1, by rw [hb.2]; exact h2, ?_, ?_, ?_⟩
        · intro i' e' he'
          by_cases hi : i' = i
          · subst hi
            rw [List.getElem?_set_self hil] at he'
            cases he'
            rw [cells_setCellV_length (List.getElem?_eq_some_iff.1 hx).1 hva]
            exact h3 _ _ hei
          · rw [List.getElem?_set_ne (by omega)] at he'
            exact h3 _ _ he'
        · intro i' e' k' y he' hy
          by_cases hi : i' = i
          · subst hi
            rw [List.getElem?_set_self hil] at he'
            cases he'
            have hk' : k' < (cells e).length := by
              have := (List.getElem?_eq_some_iff.1 hy).1
              rwa [cells_setCellV_length (List.getElem?_eq_some_iff.1 hx).1 hva] at this
            exact h4 i' e k' _ hei (List.getElem?_eq_getElem hk')
          · rw [List.getElem?_set_ne (by omega)] at he'
            exact h4 _ _ _ _ he' hy
        · intro i' e' k' y he' hy
          have other : ∀ z, (i', k') ≠ (i, k) → RepV w ρ rt (some ((o, p0) |> fun l : Loc => l.at i' k')) z (g i' k') → nh z → RepV w' ρ' rt' (some (Loc.at (o, p0) i' k')) z (g i' k') := by
            intro z hne hz hzn
            refine RepV.under K (fun b l hb hl => hU b l hb ((List.prefix_append _ _).trans hl) (pre_ne (q := p0) hl hne)) hz hzn
          by_cases hi : i' = i
          · subst hi
            rw [List.getElem?_set_self hil] at he'
            cases he'
            rw [cells_setCellV hx hva] at hy
            split at hy
            · rename_i hk
              cases hy
              subst hk
              exact hv
            · rename_i hk
              exact other y (by intro hq; cases hq; exact hk rfl) (h5 i' e k' y hei hy) (nh_cell hen hy)
          · rw [List.getElem?_set_ne (by omega)] at he'
            exact other y (by intro hq; cases hq; exact hi rfl) (h5 i' e' k' y he' hy) (nh_cell (nhs_get hn he') hy)
      have hassoc : p0 ++ (i, k) :: p = (p0 ++ [(i, k)]) ++ p := by simp
      rw [hassoc] at hU hS hR
      have hU' : ∀ b l, ρ b = some (o, l) → (p0 ++ [(i, k)]) <+: l → ¬ ((p0 ++ [(i, k)]) ++ p) <+: l → ρ' b = some (o, l) ∧ w'.heap[b]? = w.heap[b]? := fun b l hb hl hl' => hU b l hb ((List.prefix_append _ _).trans hl) hl'
      -- the block of the nested row
      have blk : ∀ b2 arr2 T2, ρ b2 = some (o, p0 ++ [(i, k)]) → w.heap[b2]? = some (.cells arr2 T2 (0, 0)) → ρ' b2 = some (o, p0 ++ [(i, k)]) ∧ ∃ arr' T', w'.heap[b2]? = some (.cells arr' T' (0, 0)) ∧ arr'.size = arr2.size := by
        intro b2 arr2 T2 hb2 hh2
        by_cases hp : p = []
        · subst hp
          have := hS b2 arr2 T2 (by simpa using hb2) hh2
          simpa using this
        · have := hU' b2 _ hb2 (List.prefix_refl _) (by rintro ⟨t, ht⟩; have := congrArg List.length ht; simp at this; exact hp this.1)
          exact ⟨this.1, arr2, T2, by rw [this.2]; exact hh2, rfl⟩
      cases hc : (cells e)[k]? with
      | none => simp [hc] at hr
      | some x =>
        have hxn := nh_cell hen hc
        have hxr := h5 i e k x hei hc
        cases x <;> simp only [hc] at hr he <;> first | (cases hr; done) | skip
        case uptr z =>
          simp only [Option.bind_eq_some_iff] at he
          obtain ⟨y, hy, he⟩ := he
          have hzn : nh z := by simpa [nh] using hxn
          have ih := rowOk_set K J' hlen (rowOk_uptr hxr) (by simpa [nhs] using hzn) hr hy hU' hS hR
          have hyl := setRow_length hr hy hlen
          split at he
          · rename_i z'
            cases he
            refine main (.uptr z) (.uptr z') hc rfl ?_
            generalize hgu : g i k = gu at hxr ⊢
            cases hxr with
            | uptr _ _ b2 arr2 T2 g2 hρ2 hh2 hc2 hr2 =>
              obtain ⟨q1, arr', T', q2, q3⟩ := blk b2 arr2 T2 hρ2 hh2
              rcases ih with ih | ⟨b', arr'', T', g', i1, i2, i3, i4, i5⟩
              · cases ih
              · have hbb := J' b2 b' _ q1 i1
                subst hbb
                exact .uptr _ _ b2 arr'' T' (g' 0) i1 i2 (fun k x hx => by simpa using i4 0 z' k x rfl hx) (fun k x hx => i5 0 z' k x rfl hx)
          · cases he
        case usl s2 z =>
          simp only [Option.map_eq_some_iff] at he
          obtain ⟨y, hy, rfl⟩ := he
          have hzn : nhs z := by simpa [nh] using hxn
          have ih := rowOk_set K J' hlen (rowOk_usl hxr) hzn hr hy hU' hS hR
          have hyl := setRow_length hr hy hlen
          refine main (.usl s2 z) (.usl s2 y) hc rfl ?_
          generalize hgu : g i k = gu at hxr ⊢
          cases hxr with
          | usl0 =>
            have : y = [] := List.length_eq_zero_iff.1 (by simpa using hyl)
            subst this
            exact .usl0 _ _ _
          | usl _ _ _ b2 A2 c2 arr2 T2 g2 hρ2 hh2 hl2 hA2 hcap2 hs2 hc2 hr2 =>
            obtain ⟨q1, arr', T', q2, q3⟩ := blk b2 arr2 T2 hρ2 hh2
            rw [← hyl]
            rcases ih with ih | ⟨b', arr'', T'', g', i1, i2, i3, i4, i5⟩
            · subst ih
              exact .usl _ s2 [] b2 A2 c2 arr' T' g2 q1 q2 (by simp) hA2 (by rw [q3]; exact hcap2) (by simp) (by simp) (by simp)
            · have hbb := J' b2 b' _ q1 i1
              subst hbb
              rw [q2] at i2
              cases i2
              exact .usl _ s2 y b2 A2 c2 arr' T' g' q1 q2 (by rw [hyl]; exact hl2) hA2 (by rw [q3]; exact hcap2) i3 i4 i5
end Go.Ln
/- A row leaves the store: it goes on reading at its new place, the rest at the old one. -/
set_option linter.unusedVariables false
set_option linter.unusedSimpArgs false
set_option linter.unusedSectionVars false
namespace Go.Ln
open Go
variable {w w' : World} {ρ ρ' : Own} {rt rt' : Store} {New : Nat → Nat → Prop}

theorem rowAt_s : ∀ {p : List (Nat × Nat)} {s s' : Nat} {es : List V}, (rowAt p s es).isSome = (rowAt p s' es).isSome
  | [], s, s', es => by simp [rowAt]
  | (i, k) :: p, s, s', es => by simp [rowAt]

theorem rowAt_append : ∀ {p t : List (Nat × Nat)} {s s1 : Nat} {es es1 : List V}, rowAt p s es = some (s1, es1) → rowAt (p ++ t) s es = rowAt t s1 es1
  | [], t, s, s1, es, es1, h => by simp [rowAt] at h; simp [h.1, h.2]
  | (i, k) :: p, t, s, s1, es, es1, h => by
    simp only [rowAt, List.cons_append] at h ⊢
    cases hei : es[i]? with
    | none => simp [hei] at h
    | some v =>
      simp only [hei] at h ⊢
      cases hc : (cells v)[k]? with
      | none => simp [hc] at h
      | some x => cases x <;> simp only [hc] at h ⊢ <;> first | (cases h; done) | exact rowAt_append h

theorem rowAt_pre : ∀ {p t : List (Nat × Nat)} {s : Nat} {es : List V}, (rowAt (p ++ t) s es).isSome = true → (rowAt p s es).isSome = true
  | [], t, s, es, h => by simp [rowAt]
  | (i, k) :: p, t, s, es, h => by
    simp only [rowAt, List.cons_append] at h ⊢
    cases hei : es[i]? with
    | none => simp [hei] at h
    | some v =>
      simp only [hei] at h ⊢
      cases hc : (cells v)[k]? with
      | none => simp [hc] at h
      | some x => cases x <;> simp only [hc] at h ⊢ <;> first | (cases h; done) | exact rowAt_pre h

theorem rowAt_set_append {new : List V} : ∀ {q t : List (Nat × Nat)} {s sy : Nat} {es es' old : List V}, rowAt q s es = some (sy, old) → setRow new q es = some es' → (rowAt (q ++ t) s es').isSome = (rowAt t sy new).isSome
  | [], t, s, sy, es, es', old, h, e => by simp [rowAt] at h; simp [setRow] at e; subst e; simp [rowAt_s (s := s) (s' := sy)]
  | (i, k) :: q, t, s, sy, es, es', old, h, e => by
    simp only [rowAt] at h
    simp only [setRow] at e
    cases hei : es[i]? with
    | none => simp [hei] at e
    | some v =>
      simp only [hei] at e h
      have hil := (List.getElem?_eq_some_iff.1 hei).1
      cases hc : (cells v)[k]? with
      | none => simp [hc] at h
      | some x =>
        cases x <;> simp only [hc] at h e <;> first | (cases h; done) | skip
        case uptr z =>
          simp only [Option.bind_eq_some_iff] at e
          obtain ⟨y, hy, e⟩ := e
          split at e
          · rename_i z'
            cases e
            simp only [rowAt, List.cons_append, List.getElem?_set_self hil, cells_setCellV (v := .uptr z') hc rfl, if_true]
            rw [rowAt_s (s' := (cells z).length)]
            exact rowAt_set_append h hy
          · cases e
        case usl s2 z =>
          simp only [Option.map_eq_some_iff] at e
          obtain ⟨y, hy, rfl⟩ := e
          simp only [rowAt, List.cons_append, List.getElem?_set_self hil, cells_setCellV (v := .usl s2 y) hc rfl, if_true]
          exact rowAt_set_append h hy

theorem live_set {new : List V} {sy : Nat} {old : List V} (hnew : ∀ t, (rowAt t sy new).isSome = true → (rowAt t sy old).isSome = true) : ∀ {q p : List (Nat × Nat)} {s : Nat} {es es' : List V}, rowAt q s es = some (sy, old) → setRow new q es = some es' → (rowAt p s es').isSome = true → (rowAt p s es).isSome = true
  | [], p, s, es, es', h, e, hl => by
    simp [rowAt] at h
    simp [setRow] at e
    obtain ⟨rfl, rfl⟩ := h
    subst e
    exact hnew p hl
  | (i, k) :: q, [], s, es, es', h, e, hl => by simp [rowAt]
  | (i, k) :: q, (i', k') :: p, s, es, es', h, e, hl => by
    simp only [rowAt] at h hl ⊢
    simp only [setRow] at e
    cases hei : es[i]? with
    | none => simp [hei] at e
    | some v =>
      simp only [hei] at e h
      have hil := (List.getElem?_eq_some_iff.1 hei).1
      cases hc : (cells v)[k]? with
      | none => simp [hc] at h
      | some x =>
        have go : ∀ (x' : V), isAggV x' = false → (x' matches .usl _ _) = (x' matches .usl _ _) → True := fun _ _ _ => trivial
        cases x <;> simp only [hc] at h e <;> first | (cases h; done) | skip
        case uptr z =>
          simp only [Option.bind_eq_some_iff] at e
          obtain ⟨y, hy, e⟩ := e
          split at e
          · rename_i z'
            cases e
            by_cases hi : i' = i
            · subst hi
              simp only [List.getElem?_set_self hil, cells_setCellV (v := .uptr z') hc rfl] at hl
              simp only [hei]
              by_cases hk : k' = k
              · subst hk
                simp only [if_true] at hl
                simp only [hc]
                rw [rowAt_s (s' := (cells z).length)] at hl
                exact live_set hnew h hy hl
              · simp only [hk, if_false] at hl
                exact hl
            · rw [List.getElem?_set_ne (by omega)] at hl
              exact hl
          · cases e
        case usl s2 z =>
          simp only [Option.map_eq_some_iff] at e
          obtain ⟨y, hy, rfl⟩ := e
          by_cases hi : i' = i
          · subst hi
            simp only [List.getElem?_set_self hil, cells_setCellV (v := .usl s2 y) hc rfl] at hl
            simp only [hei]
            by_cases hk : k' = k
            · subst hk
              simp only [if_true] at hl
              simp only [hc]
              exact live_set hnew h hy hl
            · simp only [hk, if_false] at hl
              exact hl
          · rw [List.getElem?_set_ne (by omega)] at hl
            exact hl

/-- The row at a place is now another root. -/
def moveOwn (ρ : Own) (o : Nat) (path : List (Nat × Nat)) (q : Nat) (dst : List (Nat × Nat)) : Own := fun b =>
  match ρ b with
  | some (o', l) => if o' = o ∧ path <+: l then some (q, dst ++ l.drop path.length) else some (o', l)
  | none => none

theorem moveOwn_none {o path q dst b} : moveOwn ρ o path q dst b = none ↔ ρ b = none := by
  unfold moveOwn
  cases ρ b with
  | none => simp
  | some l => simp; split <;> simp
theorem moveOwn_other {o path q dst b o' l} (h : ρ b = some (o', l)) (hn : ¬ (o' = o ∧ path <+: l)) : moveOwn ρ o path q dst b = some (o', l) := by
  unfold moveOwn
  rw [h]
  exact if_neg hn
theorem moveOwn_under {o path q dst b l} (h : ρ b = some (o, path ++ l)) : moveOwn ρ o path q dst b = some (q, dst ++ l) := by
  unfold moveOwn
  rw [h]
  simp
theorem moveOwn_inv {o path q dst b o' l} (h : moveOwn ρ o path q dst b = some (o', l)) : (ρ b = some (o', l) ∧ ¬ (o' = o ∧ path <+: l)) ∨ (o' = q ∧ ∃ t, l = dst ++ t ∧ ρ b = some (o, path ++ t)) := by
  unfold moveOwn at h
  cases hb : ρ b with
  | none => simp [hb] at h
  | some x =>
    obtain ⟨o1, l1⟩ := x
    simp only [hb] at h
    split at h
    · rename_i hc
      obtain ⟨rfl, t, rfl⟩ := hc
      cases h
      exact .inr ⟨rfl, t, by simp, rfl⟩
    · rename_i hc
      cases h
      exact .inl ⟨rfl, hc⟩

theorem moveOwn_inj (J : Inj ρ) {o path q dst} (hq : ∀ b l, ρ b ≠ some (q, dst ++ l)) : Inj (moveOwn ρ o path q dst) := by
  intro b b' ⟨o', l⟩ h h'
  rcases moveOwn_inv h with ⟨h1, _⟩ | ⟨rfl, t, rfl, h1⟩ <;> rcases moveOwn_inv h' with ⟨h2, _⟩ | ⟨e, t', e', h2⟩
  · exact J _ _ _ h1 h2
  · subst e; subst e'; exact absurd h1 (hq _ _)
  · exact absurd h2 (hq _ _)
  · rw [List.append_cancel_left_eq] at e'
    subst e'
    exact J _ _ _ h1 h2
end Go.Ln
/- A row is taken out of the store. -/
set_option linter.unusedVariables false
set_option linter.unusedSimpArgs false
set_option linter.unusedSectionVars false
namespace Go.Ln
open Go
variable {w w' : World} {ρ ρ' : Own} {rt rt' : Store} {New : Nat → Nat → Prop}

theorem RowOk.under (K : Keep New w ρ rt w' ρ' rt') {o : Nat} {q : List (Nat × Nat)} (hU : ∀ b l, ρ b = some (o, l) → q <+: l → ρ' b = some (o, l) ∧ w'.heap[b]? = w.heap[b]?) {s : Nat} {es : List V}
    (h : RowOk w ρ rt (o, q) s es) (hn : nhs es) : RowOk w' ρ' rt' (o, q) s es := by
  rcases h with h | ⟨b, arr, T, g, h1, h2, h3, h4, h5⟩
  · exact .inl h
  · have hb := hU b q h1 (List.prefix_refl _)
    exact .inr ⟨b, arr, T, g, hb.1, by rw [hb.2]; exact h2, h3, h4, fun i e k x he hx => RepV.under K (fun b l hl hp => hU b l hl ((List.prefix_append _ _).trans hp)) (h5 i e k x he hx) (nh_cell (nhs_get hn he) hx)⟩

/-- A row at a new place. -/
theorem RowOk.move (K : Keep New w ρ rt w' ρ' rt') {o q : Nat} {path dst : List (Nat × Nat)} (hU : ∀ b l, ρ b = some (o, path ++ l) → ρ' b = some (q, dst ++ l) ∧ w'.heap[b]? = w.heap[b]?) {s : Nat} {es : List V}
    (h : RowOk w ρ rt (o, path) s es) (hn : nhs es) : RowOk w' ρ' rt' (q, dst) s es := by
  rcases h with h | ⟨b, arr, T, g, h1, h2, h3, h4, h5⟩
  · exact .inl h
  · have hb := hU b [] (by simpa using h1)
    refine .inr ⟨b, arr, T, g, by simpa using hb.1, by rw [hb.2]; exact h2, h3, h4, fun i e k x he hx => ?_⟩
    have := (h5 i e k x he hx).mono K (fun l => (q, dst ++ l.2.drop path.length)) (fun l => l.1 = o ∧ path <+: l.2)
      (fun l i k hl => by
        obtain ⟨_, t, ht⟩ := hl
        simp [Loc.at, ← ht])
      (fun l i k hl => ⟨hl.1, hl.2.trans (by simp [Loc.at])⟩)
      (fun b l hl hb => by
        obtain ⟨l1, l2⟩ := l
        obtain ⟨rfl, t, rfl⟩ := hl
        have := hU b t hb
        simpa using this)
      (fun l hl => by cases hl; exact ⟨rfl, by simp [Loc.at]⟩) (nh_noNew (nh_cell (nhs_get hn he) hx))
    simpa [Loc.at] using this

/-- One cell of a row is another. -/
theorem rowOk_cellSet (K : Keep New w ρ rt w' ρ' rt') {o : Nat} {p0 : List (Nat × Nat)} {s : Nat} {es : List V} {i k : Nat} {e x v : V} (h : RowOk w ρ rt (o, p0) s es) (hn : nhs es) (hei : es[i]? = some e) (hx : (cells e)[k]? = some x) (hva : isAggV v = false)
    (hU : ∀ b l, ρ b = some (o, l) → p0 <+: l → l ≠ p0 → ¬ (p0 ++ [(i, k)]) <+: l → ρ' b = some (o, l) ∧ w'.heap[b]? = w.heap[b]?)
    (hB : ∀ b arr T, ρ b = some (o, p0) → w.heap[b]? = some (.cells arr T (0, 0)) → ∃ arr' u, ρ' b = some (o, p0) ∧ w'.heap[b]? = some (.cells arr' T (0, 0)) ∧ (∀ j, j ≠ i * s + k → arr'[j]? = arr[j]?) ∧ arr'[i * s + k]? = some u ∧
      (∀ y, arr[i * s + k]? = some y → RepV w ρ rt (some (o, p0 ++ [(i, k)])) x y → RepV w' ρ' rt' (some (o, p0 ++ [(i, k)])) v u)) :
    RowOk w' ρ' rt' (o, p0) s (es.set i (setCellV e k v)) := by
  rcases h with rfl | ⟨b, arr, T, g, h1, h2, h3, h4, h5⟩
  · simp at hei
  have hen := nhs_get hn hei
  obtain ⟨arr', u, b1, b2, b3, b4, b5⟩ := hB b arr T h1 h2
  have hil := (List.getElem?_eq_some_iff.1 hei).1
  have hkl := (List.getElem?_eq_some_iff.1 hx).1
  have hs := h3 i e hei
  have hne : ∀ (i' k' : Nat) (e' : V), es[i']? = some e' → k' < (cells e').length → (i', k') ≠ (i, k) → i' * s + k' ≠ i * s + k := by
    intro i' k' e' he' hk' hne hq
    have hk2 : k' < s := by rw [← h3 i' e' he']; exact hk'
    have hk1 : k < s := by rw [← hs]; exact hkl
    have e1 : (i' * s + k') / s = i' := by rw [Nat.mul_comm, Nat.mul_add_div (by omega)]; simp [Nat.div_eq_of_lt hk2]
    have e2 : (i * s + k) / s = i := by rw [Nat.mul_comm, Nat.mul_add_div (by omega)]; simp [Nat.div_eq_of_lt hk1]
    have : i' = i := by rw [← e1, ← e2, hq]
    subst this
    exact hne (by congr 1; omega)
  have g' : ∀ (i' : Nat) (e' : V) k' y, (es.set i (setCellV e k v))[i']? = some e' → (cells e')[k']? = some y → ∃ z, arr'[i' * s + k']? = some z ∧ RepV w' ρ' rt' (some (Loc.at (o, p0) i' k')) y z := by
    intro i' e' k' y he' hy
    have other : ∀ (e'' : V), es[i']? = some e'' → (cells e'')[k']? = some y → (i', k') ≠ (i, k) → ∃ z, arr'[i' * s + k']? = some z ∧ RepV w' ρ' rt' (some (Loc.at (o, p0) i' k')) y z := by
      intro e'' he'' hy'' hnn
      have hk'' := (List.getElem?_eq_some_iff.1 hy'').1
      refine ⟨g i' k', by rw [b3 _ (hne i' k' e'' he'' hk'' hnn)]; exact h4 i' e'' k' y he'' hy'', ?_⟩
      refine RepV.under K (fun b l hb hl => hU b l hb ((List.prefix_append _ _).trans hl) ?_ (pre_ne (q := []) (p := []) hl hnn)) (h5 i' e'' k' y he'' hy'') (nh_cell (nhs_get hn he'') hy'')
      rintro rfl
      obtain ⟨t, ht⟩ := hl
      have := congrArg List.length ht
      simp at this
    by_cases hi : i' = i
    · subst hi
      rw [List.getElem?_set_self hil] at he'
      cases he'
      rw [cells_setCellV hx hva] at hy
      split at hy
      · rename_i hk
        cases hy
        subst hk
        exact ⟨u, b4, b5 _ (h4 _ _ _ _ hei hx) (h5 _ _ _ _ hei hx)⟩
      · rename_i hk
        exact other e hei hy (by intro hq; cases hq; exact hk rfl)
    · rw [List.getElem?_set_ne (by omega)] at he'
      exact other e' he' hy (by intro hq; cases hq; exact hi rfl)
  refine .inr ⟨b, arr', T, fun i' k' => arr'.getD (i' * s + k') undef, b1, b2, ?_, ?_, ?_⟩
  · intro i' e' he'
    by_cases hi : i' = i
    · subst hi
      rw [List.getElem?_set_self hil] at he'
      cases he'
      rw [cells_setCellV_length hkl hva]
      exact hs
    · rw [List.getElem?_set_ne (by omega)] at he'
      exact h3 _ _ he'
  · intro i' e' k' y he' hy
    obtain ⟨z, hz, _⟩ := g' i' e' k' y he' hy
    have hlt := (Array.getElem?_eq_some_iff.1 hz).1
    simp [Array.getD, hlt]
  · intro i' e' k' y he' hy
    obtain ⟨z, hz, hr⟩ := g' i' e' k' y he' hy
    obtain ⟨hlt, hz'⟩ := Array.getElem?_eq_some_iff.1 hz
    simpa [Array.getD, hlt, hz'] using hr

theorem setCellV_nh {e v : V} {k : Nat} (he : nh e) (hv : nh v) : nh (setCellV e k v) := by
  by_cases ha : isAggV e = true
  · cases e <;> simp [isAggV] at ha
    rename_i cs
    simp only [setCellV, nh] at he ⊢
    refine nhs_iff.2 fun x hx => ?_
    rcases List.mem_or_eq_of_mem_set hx with h | h
    · exact nhs_iff.1 he x h
    · exact h ▸ hv
  · rw [setCellV_one (by simpa using ha)]; exact hv
theorem set_nh {es : List V} {i : Nat} {v : V} (he : nhs es) (hv : nh v) : nhs (es.set i v) := nhs_iff.2 fun x hx => by
  rcases List.mem_or_eq_of_mem_set hx with h | h
  · exact nhs_iff.1 he x h
  · exact h ▸ hv
theorem setRow_nh {new : List V} (hnew : nhs new) : ∀ {p : List (Nat × Nat)} {es es' : List V}, nhs es → setRow new p es = some es' → nhs es'
  | [], es, es', h, e => by simp [setRow] at e; exact e ▸ hnew
  | (i, k) :: p, es, es', h, e => by
    simp only [setRow] at e
    split at e
    · cases e
    · rename_i v hv
      have hvn := nhs_get h hv
      split at e
      · rename_i s x hx
        simp only [Option.map_eq_some_iff] at e
        obtain ⟨y, hy, rfl⟩ := e
        have hxn := nh_cell hvn hx
        exact set_nh h (setCellV_nh hvn (by simp only [nh] at hxn ⊢; exact setRow_nh hnew hxn hy))
      · rename_i x hx
        simp only [Option.bind_eq_some_iff] at e
        obtain ⟨y, hy, e⟩ := e
        split at e <;> cases e
        have hxn := nh_cell hvn hx
        have := setRow_nh hnew (by simpa [nhs, nh] using hxn) hy
        exact set_nh h (setCellV_nh hvn (by simpa [nh, nhs] using this))
      · cases e

structure Taken (New : Nat → Nat → Prop) (w : World) (ρ : Own) (rt : Store) (ρ' : Own) (rt' : Store) (o q : Nat) (dst : List (Nat × Nat)) (s : Nat) (es : List V) : Prop where
  rok : RtOk w ρ' rt'
  inj : Inj ρ'
  rtn : RtN rt'
  row : RowOk w ρ' rt' (q, dst) s es
  keep : Keep New w ρ rt w ρ' rt'
  cell : ∀ q' d v u, q' ≠ o → RepV w ρ rt (some (q', d)) v u → nh v → RepV w ρ' rt' (some (q', d)) v u
  lab : ∀ b o' l, ρ' b = some (o', l) → (o' = q ∧ dst <+: l) ∨ (ρ b = some (o', l) ∧ (o' = o → ∃ r, rt' o = some r))
  low : ∀ x, rt x = none → rt' x = none
  oth : ∀ x, x ≠ o → rt' x = rt x

theorem takeOut_ok (H : RtOk w ρ rt) (J : Inj ρ) (hr : RtN rt) {o nv q : Nat} {path dst : List (Nat × Nat)} {r : Root} {s : Nat} {es : List V} (hv : valid rt o nv path = some r) (hrow : rowAt path r.s r.es = some (s, es))
    (hq : ∀ b l, ρ b ≠ some (q, dst ++ l)) (hz : rt 0 = none) (h : takeOut rt o r path = some rt') : Taken New w ρ rt (moveOwn ρ o path q dst) rt' o q dst s es := by
  obtain ⟨hro, hvv⟩ := valid_some hv
  have ho0 : 0 ≠ o := by rintro rfl; rw [hz] at hro; cases hro
  have hR := rowOk_path (p0 := []) (H o r hro) hrow
  simp only [List.nil_append] at hR
  have hesn : nhs es := rowAt_nh (hr o r hro) hrow
  unfold takeOut at h
  rcases List.eq_nil_or_concat path with rfl | ⟨q0, ik, rfl⟩
  · simp only [List.reverse_nil] at h
    cases h
    have K : Keep New w ρ rt w (moveOwn ρ o [] q dst) (upd rt o none) := ⟨fun b hb _ => ⟨moveOwn_none.2 hb, rfl⟩, fun o' nv' p' _ hl => by
      have hne : o' ≠ o := by
        rintro rfl
        simp [live, look, valid, upd] at hl
      refine ⟨by simpa [live, look, valid, upd, hne] using hl, fun b n hb hn => ⟨moveOwn_other hb (by simp [hne]), hn⟩⟩, fun b l hb => ⟨moveOwn_other hb (by simp [ho0]), rfl⟩⟩
    refine ⟨?_, moveOwn_inj J hq, ?_, ?_, K, ?_, ?_, ?_, ?_⟩
    · intro o' r' h'
      by_cases hne : o' = o
      · simp [upd, hne] at h'
      · simp only [upd, hne, if_false] at h'
        exact RowOk.under K (fun b l hb _ => ⟨moveOwn_other hb (by simp [hne]), rfl⟩) (H o' r' h') (hr o' r' h')
    · intro o' r' h'
      by_cases hne : o' = o
      · simp [upd, hne] at h'
      · simp only [upd, hne, if_false] at h'
        exact hr o' r' h'
    · exact RowOk.move K (fun b l hb => ⟨by simpa using moveOwn_under (path := []) hb, rfl⟩) hR hesn
    · intro q' d v u hne hrow' hn'
      exact RepV.under K (fun b l hb _ => ⟨moveOwn_other hb (by simp [hne]), rfl⟩) hrow' hn'
    · intro b o' l hb
      rcases moveOwn_inv hb with ⟨h1, h2⟩ | ⟨rfl, t, rfl, h1⟩
      · exact .inr ⟨h1, fun he => absurd ⟨he, List.nil_prefix⟩ h2⟩
      · exact .inl ⟨rfl, by simp⟩
    · intro x hx
      simp only [upd]
      split <;> simp_all
    · intro x hx
      simp [upd, hx]
  · obtain ⟨i, k⟩ := ik
    rw [List.concat_eq_append] at *
    simp only [List.reverse_append, List.reverse_cons, List.reverse_nil, List.nil_append, List.singleton_append, List.reverse_reverse, Option.bind_eq_some_iff, Option.map_eq_some_iff] at h
    obtain ⟨⟨sy, y⟩, hy, e, he, es', hes', rfl⟩ := h
    simp only at he hes'
    have hyn : nhs y := rowAt_nh (hr o r hro) hy
    have hen := nhs_get hyn he
    have hcell : ∃ x, (cells e)[k]? = some x := by
      have h1 := rowAt_append (t := [(i, k)]) hy
      rw [hrow] at h1
      simp only [rowAt, he] at h1
      cases hc : (cells e)[k]? with
      | none => simp [hc] at h1
      | some x => exact ⟨x, rfl⟩
    obtain ⟨x, hx⟩ := hcell
    have hil := (List.getElem?_eq_some_iff.1 he).1
    have hnewlive : ∀ t, (rowAt t sy (y.set i (setCellV e k .dead))).isSome = true → (rowAt t sy y).isSome = true ∧ ¬ [(i, k)] <+: t := by
      intro t ht
      match t, ht with
      | [], _ => exact ⟨by simp [rowAt], by rintro ⟨t, ht⟩; simp at ht⟩
      | (i', k') :: t', ht =>
        simp only [rowAt] at ht ⊢
        by_cases hi : i' = i
        · subst hi
          simp only [List.getElem?_set_self hil, cells_setCellV hx (v := .dead) rfl] at ht
          by_cases hk : k' = k
          · subst hk
            simp at ht
          · simp only [hk, if_false] at ht
            refine ⟨by simpa [he] using ht, ?_⟩
            rintro ⟨t, ht⟩
            simp at ht
            exact hk ht.1.symm
        · rw [List.getElem?_set_ne (by omega)] at ht
          refine ⟨ht, ?_⟩
          rintro ⟨t, ht⟩
          simp at ht
          exact hi ht.1.1.symm
    have K : Keep New w ρ rt w (moveOwn ρ o (q0 ++ [(i, k)]) q dst) (upd rt o (some { r with es := es' })) := ⟨fun b hb _ => ⟨moveOwn_none.2 hb, rfl⟩, fun o' nv' p' _ hl => by
      by_cases hne : o' = o
      · subst hne
        have hl' : (p' = [] ∨ r.nv = nv') ∧ (rowAt p' r.s es').isSome = true := by
          unfold live look at hl
          cases hvv' : valid (upd rt o' (some { r with es := es' })) o' nv' p' with
          | none => simp [hvv'] at hl
          | some r2 =>
            obtain ⟨h1, h2⟩ := valid_some hvv'
            simp [upd] at h1
            subst h1
            simp only [hvv', Option.bind_some] at hl
            exact ⟨h2, hl⟩
        have h1 := live_set (fun t ht => (hnewlive t ht).1) hy hes' hl'.2
        have h2 : ¬ (q0 ++ [(i, k)]) <+: p' := by
          rintro ⟨t, rfl⟩
          have := hl'.2
          rw [List.append_assoc, rowAt_set_append hy hes'] at this
          exact (hnewlive _ this).2 (by simp)
        refine ⟨?_, fun b n hb hn => ⟨moveOwn_other hb (by simp [h2]), hn⟩⟩
        unfold live look valid
        have : (p'.isEmpty || r.nv == nv') = true := by
          rcases hl'.1 with h | h <;> simp [h]
        simp [hro, this, h1]
      · refine ⟨by simpa [live, look, valid, upd, hne] using hl, fun b n hb hn => ⟨moveOwn_other hb (by simp [hne]), hn⟩⟩, fun b l hb => ⟨moveOwn_other hb (by simp [ho0]), rfl⟩⟩
    have hRy := rowOk_path (p0 := []) (H o r hro) hy
    simp only [List.nil_append] at hRy
    have hnew : RowOk w (moveOwn ρ o (q0 ++ [(i, k)]) q dst) (upd rt o (some { r with es := es' })) (o, q0) sy (y.set i (setCellV e k .dead)) := by
      refine rowOk_cellSet K hRy hyn he hx rfl (fun b l hb hl hne hnp => ⟨moveOwn_other hb (by simp [hnp]), rfl⟩) (fun b arr T hb hh => ?_)
      obtain ⟨b', arr2, T2, z, g1, g2, g3, g4, g5⟩ := rowOk_cell hRy he hx
      have := J _ _ _ hb g1
      subst this
      rw [hh] at g2
      cases g2
      refine ⟨arr, z, moveOwn_other hb ?_, hh, fun j _ => rfl, g4, fun _ _ _ => .dead _ _⟩
      rintro ⟨_, t, ht⟩
      have := congrArg List.length ht
      simp at this
    refine ⟨?_, moveOwn_inj J hq, ?_, ?_, K, ?_, ?_, ?_, ?_⟩
    · intro o' r' h'
      by_cases hne : o' = o
      · subst hne
        simp only [upd, if_true, Option.some.injEq] at h'
        subst h'
        refine rowOk_set (p0 := []) K (moveOwn_inj J hq) (by simp) (H o' r hro) (hr o' r hro) hy hes' (fun b l hb _ hl => ⟨moveOwn_other hb ?_, rfl⟩) (fun b arr T hb hh => ⟨moveOwn_other (by simpa using hb) ?_, arr, T, hh, rfl⟩) (by simpa using hnew)
        · rintro ⟨_, h2⟩
          exact hl (by simpa using (List.prefix_append q0 [(i, k)]).trans h2)
        · rintro ⟨_, t, ht⟩
          have := congrArg List.length ht
          simp at this
      · simp only [upd, hne, if_false] at h'
        exact RowOk.under K (fun b l hb _ => ⟨moveOwn_other hb (by simp [hne]), rfl⟩) (H o' r' h') (hr o' r' h')
    · intro o' r' h'
      by_cases hne : o' = o
      · simp only [upd, hne, if_true, Option.some.injEq] at h'
        subst h'
        exact setRow_nh (set_nh hyn (setCellV_nh hen (by simp [nh]))) (hr o r hro) hes'
      · simp only [upd, hne, if_false] at h'
        exact hr o' r' h'
    · exact RowOk.move K (fun b l hb => ⟨moveOwn_under hb, rfl⟩) hR hesn
    · intro q' d v u hne hrow' hn'
      exact RepV.under K (fun b l hb _ => ⟨moveOwn_other hb (by simp [hne]), rfl⟩) hrow' hn'
    · intro b o' l hb
      rcases moveOwn_inv hb with ⟨h1, h2⟩ | ⟨rfl, t, rfl, h1⟩
      · exact .inr ⟨h1, fun he => ⟨{ r with es := es' }, by simp [upd]⟩⟩
      · exact .inl ⟨rfl, by simp⟩
    · intro x' hx'
      simp only [upd]
      split
      · rename_i hxo
        subst hxo
        rw [hro] at hx'
        cases hx'
      · exact hx'
    · intro x' hx'
      simp [upd, hx']
end Go.Ln
/- What is moved into memory: rows leave the store and go on reading at the place given to them. -/
set_option linter.unusedVariables false
set_option linter.unusedSimpArgs false
set_option linter.unusedSectionVars false
namespace Go.Ln
open Go
variable {w w' : World} {ρ ρ' ρ'' : Own} {rt rt' rt'' : Store} {N : Nat → Nat → Prop}

abbrev Pl := Nat → List (Nat × Nat) → Prop

/-- The labels: of places in use, or of live roots. -/
structure Lab (w : World) (ρ : Own) (rt : Store) (U : Pl) : Prop where
  l : ∀ b o l, ρ b = some (o, l) → b < w.heap.size ∧ (U o l ∨ ∃ r, rt o = some r)
  z : rt 0 = none
  f : ∀ b l, ρ b = some (0, l) → l = [(b, 0)]
instance {w : World} {ρ : Own} {rt : Store} {U : Pl} : CoeFun (Lab w ρ rt U) (fun _ => ∀ b o l, ρ b = some (o, l) → b < w.heap.size ∧ (U o l ∨ ∃ r, rt o = some r)) := ⟨Lab.l⟩

structure Abs (N : Nat → Nat → Prop) (w : World) (ρ : Own) (rt : Store) (ρ' : Own) (rt' : Store) (U' : Pl) : Prop where
  rok : RtOk w ρ' rt'
  inj : Inj ρ'
  rtn : RtN rt'
  keep : Keep N w ρ rt w ρ' rt'
  tr : ∀ q d v u, rt q = none → RepV w ρ rt (some (q, d)) v u → nh v → RepV w ρ' rt' (some (q, d)) v u
  lab : Lab w ρ' rt' U'
  nv : ∀ o r', rt' o = some r' → ∃ r, rt o = some r ∧ r'.nv = r.nv ∧ r'.s = r.s ∧ r'.es.length = r.es.length
  f0 : ∀ b l, ρ' b = some (0, l) → ρ b = some (0, l)

theorem Keep.refl : Keep N w ρ rt w ρ rt := ⟨fun _ h _ => ⟨h, rfl⟩, fun _ _ _ _ h => ⟨h, fun _ _ h1 h2 => ⟨h1, h2⟩⟩, fun _ _ h => ⟨h, rfl⟩⟩
theorem Keep.trans {w'' : World} (K : Keep N w ρ rt w' ρ' rt') (K' : Keep N w' ρ' rt' w'' ρ'' rt'') (hs : w.heap.size ≤ w'.heap.size) : Keep N w ρ rt w'' ρ'' rt'' := by
  refine ⟨fun b hb hl => ?_, fun o nv p hN hl => ?_, fun b l h => ⟨(K'.k0 b l (K.k0 b l h).1).1, (K'.k0 b l (K.k0 b l h).1).2.trans (K.k0 b l h).2⟩⟩
  · have h1 := K.k1 b hb hl
    have h2 := K'.k1 b h1.1 (by omega)
    exact ⟨h2.1, h2.2.trans h1.2⟩
  · have h2 := K'.k2 o nv p hN hl
    have h1 := K.k2 o nv p hN h2.1
    exact ⟨h1.1, fun b n hb hn => by
      obtain ⟨h3, h4⟩ := h1.2 b n hb hn
      exact h2.2 b n h3 h4⟩

theorem Abs.refl (H : RtOk w ρ rt) (J : Inj ρ) (hr : RtN rt) {U : Pl} (hL : Lab w ρ rt U) : Abs N w ρ rt ρ rt U :=
  ⟨H, J, hr, Keep.refl, fun _ _ _ _ _ h _ => h, hL, fun o r h => ⟨r, h, rfl, rfl, rfl⟩, fun _ _ h => h⟩
theorem Abs.gone {U : Pl} (a : Abs N w ρ rt ρ' rt' U) {x : Nat} (h : rt x = none) : rt' x = none := by
  cases hx : rt' x with
  | none => rfl
  | some r =>
    obtain ⟨r', h', _⟩ := a.nv x r hx
    rw [h] at h'
    cases h'
theorem Abs.trans {U U' : Pl} (a : Abs N w ρ rt ρ' rt' U) (b : Abs N w ρ' rt' ρ'' rt'' U') : Abs N w ρ rt ρ'' rt'' U' :=
  ⟨b.rok, b.inj, b.rtn, a.keep.trans b.keep (Nat.le_refl _), fun q d v u hq h hn => b.tr q d v u (a.gone hq) (a.tr q d v u hq h hn) hn, b.lab, fun o r h => by
    obtain ⟨r1, h1, e1, e2, e3⟩ := b.nv o r h
    obtain ⟨r2, h2, e4, e5, e6⟩ := a.nv o r1 h1
    exact ⟨r2, h2, e1.trans e4, e2.trans e5, e3.trans e6⟩, fun x l h => a.f0 x l (b.f0 x l h)⟩
theorem Abs.weaken {U U' : Pl} (a : Abs N w ρ rt ρ' rt' U) (h : ∀ o l, U o l → U' o l) : Abs N w ρ rt ρ' rt' U' :=
  { a with lab := ⟨fun b o l hb => ⟨(a.lab b o l hb).1, (a.lab b o l hb).2.imp (h o l) id⟩, a.lab.z, a.lab.f⟩ }

def atP (U : Pl) (q : Nat) (dst : List (Nat × Nat)) : Pl := fun o l => U o l ∨ (o = q ∧ dst <+: l)

theorem takeOut_nv {o : Nat} {r : Root} {path : List (Nat × Nat)} (hro : rt o = some r) (h : takeOut rt o r path = some rt') : ∀ o' r', rt' o' = some r' → ∃ r, rt o' = some r ∧ r'.nv = r.nv ∧ r'.s = r.s ∧ r'.es.length = r.es.length := by
  unfold takeOut at h
  intro o' r' h'
  split at h
  · cases h
    by_cases he : o' = o
    · simp [upd, he] at h'
    · simp [upd, he] at h'; exact ⟨r', h', rfl, rfl, rfl⟩
  · simp only [Option.bind_eq_some_iff, Option.map_eq_some_iff] at h
    obtain ⟨y, hy, e, he', es, hes, rfl⟩ := h
    by_cases he : o' = o
    · simp [upd, he] at h'; subst h'; subst he
      exact ⟨r, hro, rfl, rfl, setRow_length hy hes (by simp)⟩
    · simp [upd, he] at h'; exact ⟨r', h', rfl, rfl, rfl⟩

theorem takeOut_abs (H : RtOk w ρ rt) (J : Inj ρ) (hr : RtN rt) {U : Pl} (hL : Lab w ρ rt U) {o nv q : Nat} {path dst : List (Nat × Nat)} {r : Root} {s : Nat} {es : List V} (hv : valid rt o nv path = some r) (hrow : rowAt path r.s r.es = some (s, es))
    (hq : ∀ l, ¬ U q (dst ++ l)) (hq0 : q ≠ 0) (hq' : rt q = none) (h : takeOut rt o r path = some rt') : Abs N w ρ rt (moveOwn ρ o path q dst) rt' (atP U q dst) ∧ RowOk w (moveOwn ρ o path q dst) rt' (q, dst) s es ∧ nhs es := by
  have hro := (valid_some hv).1
  have t := takeOut_ok (New := N) H J hr hv hrow (q := q) (dst := dst) (fun b l hb => by
    rcases (hL b q _ hb).2 with h | ⟨r, h⟩
    · exact hq _ h
    · rw [hq'] at h; cases h) hL.z h
  refine ⟨⟨t.rok, t.inj, t.rtn, t.keep, fun q' d v u hq1 hv hn => t.cell q' d v u (by rintro rfl; rw [hro] at hq1; cases hq1) hv hn, ⟨fun b o' l hb => ?_, t.low 0 hL.z, fun b l hb => ?_⟩, takeOut_nv hro h, fun b l hb => ?_⟩, t.row, rowAt_nh (hr o r hro) hrow⟩
  · rcases t.lab b o' l hb with ⟨h1, h2⟩ | ⟨h1, h2⟩
    · refine ⟨?_, .inl (.inr ⟨h1, h2⟩)⟩
      rcases moveOwn_inv hb with ⟨h3, _⟩ | ⟨_, _, _, h3⟩
      · exact (hL _ _ _ h3).1
      · exact (hL _ _ _ h3).1
    · refine ⟨(hL _ _ _ h1).1, ?_⟩
      rcases (hL _ _ _ h1).2 with h3 | ⟨r', h3⟩
      · exact .inl (.inl h3)
      · by_cases he : o' = o
        · subst he; exact .inr (h2 rfl)
        · exact .inr ⟨r', by rw [t.oth _ he]; exact h3⟩
  · rcases moveOwn_inv hb with ⟨h3, _⟩ | ⟨h3, _⟩
    · exact hL.f _ _ h3
    · exact absurd h3.symm hq0
  · rcases moveOwn_inv hb with ⟨h3, _⟩ | ⟨h3, _⟩
    · exact h3
    · exact absurd h3.symm hq0

theorem absorbCell_ok (H : RtOk w ρ rt) (J : Inj ρ) (hr : RtN rt) {U : Pl} (hL : Lab w ρ rt U) {q : Nat} {dst : List (Nat × Nat)} (hq : ∀ l, ¬ U q (dst ++ l)) (hq0 : q ≠ 0) (hq' : rt q = none) {v v' : V} {u : Value} (hv : RepV w ρ rt none v u) (hn : noNew N v)
    (h : absorbCell rt v = some (v', rt')) : ∃ ρ', Abs N w ρ rt ρ' rt' (atP U q dst) ∧ RepV w ρ' rt' (some (q, dst)) v' u ∧ nh v' ∧ cellV v' = true := by
  unfold absorbCell at h
  split at h
  · rename_i o nv path s off len
    simp only [Option.bind_eq_some_iff] at h
    obtain ⟨r, hval, ⟨s1, es⟩, hrow, h⟩ := h
    split at h
    · rename_i hc
      simp only [Option.map_eq_some_iff] at h
      obtain ⟨rt1, ht, h⟩ := h
      cases h
      obtain ⟨h0, hlen, rfl⟩ := hc
      subst h0
      obtain ⟨a, hrok, hesn⟩ := takeOut_abs (N := N) H J hr hL hval hrow hq hq0 hq' ht
      refine ⟨_, a, ?_, ?_, rfl⟩
      · have hlive : live rt o nv path := by simp [live, look, hval, hrow]
        cases hv with
        | hs _ _ _ _ _ _ _ _ hh h1 =>
          obtain ⟨c, A, rfl, hlc, hcc⟩ := hh hlive
          by_cases hc0 : c = 0
          · subst hc0
            have : len = 0 := by omega
            subst this
            simpa using RepV.usl0 (w := w) (ρ := moveOwn ρ o path q dst) (rt := rt') (q, dst) s A
          · obtain ⟨b, n, hb, ⟨arr, T, hbb, rfl⟩, rfl, hle⟩ := hcc hc0
            have hb' : moveOwn ρ o path q dst b = some (q, dst) := by simpa using moveOwn_under (q := q) (dst := dst) (l := []) (by simpa using hb)
            have hlen' : len ≤ es.length := hlen
            obtain ⟨ts, hts⟩ : ∃ ts, ts = es.take len := ⟨_, rfl⟩
            have hlt : ts.length = len := by rw [hts, List.length_take]; omega
            have ht' : ∀ (i : Nat) (e : V), ts[i]? = some e → es[i]? = some e := fun i e he => by
              rw [hts, List.getElem?_take] at he
              split at he
              · exact he
              · cases he
            rw [← hts]
            rw [← hlt] at hlc ⊢
            rw [Nat.zero_add] at hle
            rcases hrok with rfl | ⟨b2, arr2, T2, g2, i1, i2, i3, i4, i5⟩
            · have : ts = [] := by simpa using hts
              subst this
              exact .usl _ s [] b (some ⟨b, 0 * s, none⟩) c arr T (fun _ _ => undef) hb' hbb hlc (fun _ => by rw [Nat.zero_mul]) hle (by simp) (by simp) (by simp)
            · have := a.inj b b2 _ hb' i1
              subst this
              rw [hbb] at i2
              cases i2
              exact .usl _ _ _ b _ c arr T g2 hb' hbb hlc (fun _ => by rw [Nat.zero_mul]) hle (fun i e he => i3 i e (ht' i e he)) (fun i e k x he hx => i4 i e k x (ht' i e he) hx) (fun i e k x he hx => i5 i e k x (ht' i e he) hx)
      · simp only [nh]
        exact nhs_iff.2 fun x hx => nhs_iff.1 hesn x (List.mem_of_mem_take hx)
    · cases h
  · rename_i o nv path s i k
    simp only [Option.bind_eq_some_iff] at h
    obtain ⟨r, hval, ⟨s1, es⟩, hrow, h⟩ := h
    simp only at h
    split at h
    · rename_i e
      split at h
      · rename_i hc
        obtain ⟨rfl, rfl⟩ := hc
        simp only [Option.map_eq_some_iff] at h
        obtain ⟨rt1, ht, h⟩ := h
        cases h
        obtain ⟨a, hrok, hesn⟩ := takeOut_abs (N := N) H J hr hL hval hrow hq hq0 hq' ht
        refine ⟨_, a, ?_, by simpa [nh, nhs] using hesn, rfl⟩
        have hlive : live rt o nv path := by simp [live, look, hval, hrow]
        cases hv with
        | hp _ _ _ _ _ _ _ _ hh h1 =>
          obtain ⟨b, n, hb, ⟨arr, T, hbb, rfl⟩, rfl⟩ := hh hlive
          have hb' : moveOwn ρ o path q dst b = some (q, dst) := by simpa using moveOwn_under (q := q) (dst := dst) (l := []) (by simpa using hb)
          rcases hrok with h | ⟨b2, arr2, T2, g2, i1, i2, i3, i4, i5⟩
          · cases h
          · have := a.inj b b2 _ hb' i1
            subst this
            rw [hbb] at i2
            cases i2
            simp only [Nat.zero_mul, Nat.add_zero]
            exact .uptr _ e b arr T (g2 0) hb' hbb (fun k x hx => by simpa using i4 0 e k x rfl hx) (fun k x hx => i5 0 e k x rfl hx)
      · cases h
    · cases h
  · split at h
    · rename_i hp
      cases h
      refine ⟨ρ, (Abs.refl H J hr hL).weaken fun o l h => .inl h, ?_, plain_nh hp hn, ?_⟩
      · exact hv.place (by cases v <;> first | trivial | exact absurd hp (by simp [plainV]))
      · cases v <;> first | rfl | exact absurd hp (by simp [plainV])
    · cases h

def atCs (U : Pl) (q i k0 n : Nat) : Pl := fun o l => U o l ∨ (o = q ∧ ∃ j, j < n ∧ [(i, k0 + j)] <+: l)

theorem pre1 {x y : Nat × Nat} {l : List (Nat × Nat)} (h : [x] <+: [y] ++ l) : x = y := by
  obtain ⟨t, ht⟩ := h
  simp at ht
  exact ht.1

theorem absorbs_ok {q i : Nat} : ∀ {vs vs' : List V} {k0 : Nat} {w : World} {ρ : Own} {rt rt' : Store} {U : Pl} {g : Nat → Value}, RtOk w ρ rt → Inj ρ → RtN rt → Lab w ρ rt U → (∀ j l, k0 ≤ j → ¬ U q ([(i, j)] ++ l)) → q ≠ 0 → rt q = none →
    (∀ (k : Nat) x, vs[k]? = some x → RepV w ρ rt none x (g k)) → noNews N vs → absorbs rt vs = some (vs', rt') →
    ∃ ρ', Abs N w ρ rt ρ' rt' (atCs U q i k0 vs.length) ∧ vs'.length = vs.length ∧ ∀ (k : Nat) x, vs'[k]? = some x → RepV w ρ' rt' (some (q, [(i, k0 + k)])) x (g k) ∧ nh x ∧ cellV x = true
  | [], vs', k0, w, ρ, rt, rt', U, g, H, J, hr, hL, hq, hq0, hq', hv, hn, h => by
    simp [absorbs] at h
    obtain ⟨rfl, rfl⟩ := h
    exact ⟨ρ, (Abs.refl H J hr hL).weaken fun o l h => .inl h, rfl, by simp⟩
  | v :: vs, vs', k0, w, ρ, rt, rt', U, g, H, J, hr, hL, hq, hq0, hq', hv, hn, h => by
    simp only [absorbs, Option.bind_eq_some_iff, Option.map_eq_some_iff] at h
    obtain ⟨⟨x, rt1⟩, hx, ⟨ys, rt2⟩, hys, h⟩ := h
    cases h
    simp only at hys
    obtain ⟨ρ1, a1, r1, n1, c1⟩ := absorbCell_ok (N := N) H J hr hL (q := q) (dst := [(i, k0)]) (fun l => hq k0 l (Nat.le_refl _)) hq0 hq' (hv 0 v rfl) hn.1 hx
    obtain ⟨ρ2, a2, l2, r2⟩ := absorbs_ok (k0 := k0 + 1) (g := fun k => g (k + 1)) a1.rok a1.inj a1.rtn a1.lab (fun j l hj hu => by
      rcases hu with hu | ⟨_, hu⟩
      · exact hq j l (by omega) hu
      · have := pre1 hu
        cases this
        omega) hq0 (a1.gone hq') (fun k x hx => (hv (k + 1) x (by simpa using hx)).keep a1.keep (noNews_get hn.2 hx)) hn.2 hys
    refine ⟨ρ2, (a1.trans a2).weaken fun o l h => ?_, by simp [l2], fun k y hy => ?_⟩
    · rcases h with (h | ⟨h, h'⟩) | ⟨h, j, hj, h'⟩
      · exact .inl h
      · exact .inr ⟨h, 0, by simp, by simpa using h'⟩
      · exact .inr ⟨h, j + 1, by simp; omega, by rw [show k0 + (j + 1) = k0 + 1 + j by omega]; exact h'⟩
    · cases k with
      | zero =>
        simp at hy
        subst hy
        exact ⟨a2.tr _ _ _ _ (a1.gone hq') r1 n1, n1, c1⟩
      | succ k =>
        have := r2 k y (by simpa using hy)
        rwa [show k0 + 1 + k = k0 + (k + 1) by omega] at this

/-- A slot's value in transit: its cells read at places of a root that is none yet. -/
theorem absorb_ok (H : RtOk w ρ rt) (J : Inj ρ) (hr : RtN rt) {U : Pl} (hL : Lab w ρ rt U) {q i : Nat} (hq : ∀ j l, ¬ U q ([(i, j)] ++ l)) (hq0 : q ≠ 0) (hq' : rt q = none) {v v' : V} {u : Value} (hv : Slot w ρ rt nowhere v u) (hn : noNew N v)
    (h : absorb rt v = some (v', rt')) : ∃ ρ', Abs N w ρ rt ρ' rt' (atCs U q i 0 (cells v).length) ∧ Slot w ρ' rt' (fun k => some (q, [(i, k)])) v' u ∧ nh v' ∧ isAggV v' = isAggV v ∧ (cells v').length = (cells v).length ∧ (cells v').all cellV = true := by
  by_cases ha : isAggV v = true
  · cases v <;> simp [isAggV] at ha
    rename_i cs
    simp only [absorb, Option.map_eq_some_iff] at h
    obtain ⟨⟨ys, rt1⟩, hys, h⟩ := h
    cases h
    obtain ⟨g, rfl, hg⟩ := slot_agg hv
    obtain ⟨ρ', a, l, r⟩ := absorbs_ok (N := N) (i := i) (k0 := 0) H J hr hL (fun j l _ => hq j l) hq0 hq' hg (by simpa [noNew] using hn) hys
    refine ⟨ρ', a, ⟨g, by simp [pack, isAggV, cells, l], fun k x hx => by simpa using (r k x hx).1⟩, ?_, rfl, l, ?_⟩
    · simp only [nh]
      refine nhs_iff.2 fun x hx => ?_
      obtain ⟨k, hk⟩ := List.mem_iff_getElem?.1 hx
      exact (r k x hk).2.1
    · refine List.all_eq_true.2 fun x hx => ?_
      obtain ⟨k, hk⟩ := List.mem_iff_getElem?.1 hx
      exact (r k x hk).2.2
  · have ha' : isAggV v = false := by simpa using ha
    have h' : absorbCell rt v = some (v', rt') := by
      cases v <;> first | exact h | exact absurd rfl ha
    obtain ⟨ρ', a, r, n, c⟩ := absorbCell_ok (N := N) H J hr hL (q := q) (dst := [(i, 0)]) (hq 0) hq0 hq' (Slot.one ha' hv) hn h'
    have hc : isAggV v' = false := by cases v' <;> first | rfl | exact absurd c (by simp [cellV])
    refine ⟨ρ', a.weaken fun o l h => ?_, Slot.mk1 hc r, n, by rw [hc, ha'], by rw [cells_one hc, cells_one ha']; rfl, by simp [cells_one hc, c]⟩
    rcases h with h | ⟨h, h'⟩
    · exact .inl h
    · exact .inr ⟨h, 0, by simp [cells_one ha'], by simpa using h'⟩

def atEs (U : Pl) (q i0 n : Nat) : Pl := fun o l => U o l ∨ (o = q ∧ ∃ i k, i < n ∧ [(i0 + i, k)] <+: l)

theorem Slot.tr {U : Pl} (a : Abs N w ρ rt ρ' rt' U) {q i : Nat} {v : V} {u : Value} (hq : rt q = none) (h : Slot w ρ rt (fun k => some (q, [(i, k)])) v u) (hn : nh v) : Slot w ρ' rt' (fun k => some (q, [(i, k)])) v u := by
  obtain ⟨g, hu, hg⟩ := h
  exact ⟨g, hu, fun k x hx => a.tr _ _ _ _ hq (hg k x hx) (nh_cell hn hx)⟩

theorem absorbEach_ok {q : Nat} : ∀ {vs vs' : List V} {i0 : Nat} {w : World} {ρ : Own} {rt rt' : Store} {U : Pl} {g : Nat → Value}, RtOk w ρ rt → Inj ρ → RtN rt → Lab w ρ rt U → (∀ i j l, i0 ≤ i → ¬ U q ([(i, j)] ++ l)) → q ≠ 0 → rt q = none →
    (∀ (i : Nat) x, vs[i]? = some x → Slot w ρ rt nowhere x (g i)) → noNews N vs → absorbEach rt vs = some (vs', rt') →
    ∃ ρ', Abs N w ρ rt ρ' rt' (atEs U q i0 vs.length) ∧ vs'.length = vs.length ∧ ∀ (i : Nat) x y, vs'[i]? = some x → vs[i]? = some y → Slot w ρ' rt' (fun k => some (q, [(i0 + i, k)])) x (g i) ∧ nh x ∧ isAggV x = isAggV y ∧ (cells x).length = (cells y).length ∧ (cells x).all cellV = true
  | [], vs', i0, w, ρ, rt, rt', U, g, H, J, hr, hL, hq, hq0, hq', hv, hn, h => by
    simp [absorbEach] at h
    obtain ⟨rfl, rfl⟩ := h
    exact ⟨ρ, (Abs.refl H J hr hL).weaken fun o l h => .inl h, rfl, by simp⟩
  | v :: vs, vs', i0, w, ρ, rt, rt', U, g, H, J, hr, hL, hq, hq0, hq', hv, hn, h => by
    simp only [absorbEach, Option.bind_eq_some_iff, Option.map_eq_some_iff] at h
    obtain ⟨⟨x, rt1⟩, hx, ⟨ys, rt2⟩, hys, h⟩ := h
    cases h
    simp only at hys
    obtain ⟨ρ1, a1, r1, n1, c1, d1, e1⟩ := absorb_ok (N := N) H J hr hL (q := q) (i := i0) (fun j l => hq i0 j l (Nat.le_refl _)) hq0 hq' (hv 0 v rfl) hn.1 hx
    obtain ⟨ρ2, a2, l2, r2⟩ := absorbEach_ok (i0 := i0 + 1) (g := fun k => g (k + 1)) a1.rok a1.inj a1.rtn a1.lab (fun i j l hi hu => by
      rcases hu with hu | ⟨_, j', _, hu⟩
      · exact hq i j l (by omega) hu
      · have := pre1 hu
        cases this
        omega) hq0 (a1.gone hq') (fun k x hx => (hv (k + 1) x (by simpa using hx)).keep a1.keep (noNews_get hn.2 hx)) hn.2 hys
    refine ⟨ρ2, (a1.trans a2).weaken fun o l h => ?_, by simp [l2], fun k y z hy hz => ?_⟩
    · rcases h with (h | ⟨h, j, _, h'⟩) | ⟨h, i, k, hj, h'⟩
      · exact .inl h
      · exact .inr ⟨h, 0, j, by simp, by simpa using h'⟩
      · exact .inr ⟨h, i + 1, k, by simp; omega, by rw [show i0 + (i + 1) = i0 + 1 + i by omega]; exact h'⟩
    · cases k with
      | zero =>
        simp at hy hz
        subst hy hz
        exact ⟨Slot.tr a2 (a1.gone hq') r1 n1, n1, c1, d1, e1⟩
      | succ k =>
        have := r2 k y z (by simpa using hy) (by simpa using hz)
        rwa [show i0 + 1 + k = i0 + (k + 1) by omega] at this
end Go.Ln
/- A new root of the store. -/
set_option linter.unusedVariables false
set_option linter.unusedSimpArgs false
set_option linter.unusedSectionVars false
namespace Go.Ln
open Go
variable {w w' : World} {ρ ρ' ρ'' : Own} {rt rt' rt'' : Store} {N : Nat → Nat → Prop}

def lab1 (ρ : Own) (b : Nat) (L : Loc) : Own := fun x => if x = b then some L else ρ x

/-- What a step leaves alone of the world. -/
structure Wk (w w' : World) : Prop where
  os : w'.os = w.os
  out : w'.output = w.output
  tape : w'.tape = w.tape
  size : w.heap.size ≤ w'.heap.size
  blk : ∀ b n, Blk w b n → Blk w' b n
theorem Wk.refl : Wk w w := ⟨rfl, rfl, rfl, Nat.le_refl _, fun _ _ h => h⟩
theorem Wk.push {arr : Array Value} {T : TypeId} (hw : w'.heap = w.heap.push (.cells arr T (0, 0))) (hos : w'.os = w.os) (hout : w'.output = w.output) (htape : w'.tape = w.tape) : Wk w w' :=
  ⟨hos, hout, htape, by rw [hw]; simp, fun b n ⟨a, t, h1, h2⟩ => ⟨a, t, by rw [hw, Array.getElem?_push, if_neg (by have := lt_of_heap h1; omega)]; exact h1, h2⟩⟩
theorem Wk.trans {w'' : World} (a : Wk w w') (b : Wk w' w'') : Wk w w'' := ⟨b.os.trans a.os, b.out.trans a.out, b.tape.trans a.tape, Nat.le_trans a.size b.size, fun c n h => b.blk c n (a.blk c n h)⟩

def noU : Pl := fun o _ => o = 0

/-- What a step leaves behind. -/
structure Eff (N : Nat → Nat → Prop) (w : World) (ρ : Own) (rt : Store) (w' : World) (ρ' : Own) (rt' : Store) (id : Nat) : Prop where
  rok : RtOk w' ρ' rt'
  inj : Inj ρ'
  rtn : RtN rt'
  keep : Keep N w ρ rt w' ρ' rt'
  lab : Lab w' ρ' rt' noU
  wk : Wk w w'
  nv : ∀ o r', rt' o = some r' → (∃ r, rt o = some r ∧ r.nv ≤ r'.nv) ∨ (id ≤ o ∧ o < id + room)
  f0 : ∀ b l, ρ' b = some (0, l) → ρ b = some (0, l)

theorem slot_pack {at_ : Nat → Option Loc} {x y : V} {g : Nat → Value} (h : Slot w ρ rt at_ x (pack y g)) (ha : isAggV x = isAggV y) (hl : (cells x).length = (cells y).length) : ∀ (k : Nat) z, (cells x)[k]? = some z → RepV w ρ rt (at_ k) z (g k) := by
  obtain ⟨g', hu, hg⟩ := h
  intro k z hz
  have hk := (List.getElem?_eq_some_iff.1 hz).1
  have : g k = g' k := by
    unfold pack at hu
    rw [ha] at hu
    split at hu
    · injection hu with hu
      have h1 := congrArg (fun a : Array Value => a[k]?) hu
      have e1 : (arrOf (cells y).length g)[k]? = some (g k) := arrOf_get (by omega)
      have e2 : (arrOf (cells x).length g')[k]? = some (g' k) := arrOf_get hk
      simp only [e1, e2] at h1
      simpa using h1
    · rename_i hna
      have hx : isAggV x = false := by rw [ha]; simpa using hna
      rw [cells_one hx] at hk
      have : k = 0 := by simpa using hk
      subst this
      exact hu
  rw [this]
  exact hg k z hz

theorem newRoot (H : RtOk w ρ rt) (J : Inj ρ) (hr : RtN rt) {U : Pl} (hL : Lab w ρ rt U) {id : Nat} (hp : 0 < id) (hU : ∀ o l, U o l → o = 0 ∨ (o = id ∧ l ≠ [])) (hid : rt id = none) (hN : ∀ nv, N id nv)
    {arr : Array Value} {T : TypeId} (hw : w'.heap = w.heap.push (.cells arr T (0, 0))) {es : List V} {s : Nat} {g : Nat → Nat → Value} (hs : ∀ (i : Nat) (e : V), es[i]? = some e → (cells e).length = s)
    (hc : ∀ (i : Nat) (e : V) k x, es[i]? = some e → (cells e)[k]? = some x → arr[i * s + k]? = some (g i k))
    (hR : ∀ (i : Nat) (e : V) k x, es[i]? = some e → (cells e)[k]? = some x → RepV w ρ rt (some (id, [(i, k)])) x (g i k)) (hn : nhs es) :
    RtOk w' (lab1 ρ w.heap.size (id, [])) (upd rt id (some ⟨0, s, es⟩)) ∧ Inj (lab1 ρ w.heap.size (id, [])) ∧ RtN (upd rt id (some ⟨0, s, es⟩)) ∧ Keep N w ρ rt w' (lab1 ρ w.heap.size (id, [])) (upd rt id (some ⟨0, s, es⟩)) ∧
      Lab w' (lab1 ρ w.heap.size (id, [])) (upd rt id (some ⟨0, s, es⟩)) noU := by
  have hnew : w'.heap[w.heap.size]? = some (.cells arr T (0, 0)) := by rw [hw]; simp
  have hold : ∀ b, b < w.heap.size → w'.heap[b]? = w.heap[b]? := fun b hb => by
    rw [hw, Array.getElem?_push, if_neg (by omega)]
  have hoth : ∀ b l, ρ b = some l → lab1 ρ w.heap.size (id, []) b = some l ∧ w'.heap[b]? = w.heap[b]? := fun b l hb => by
    have := (hL b l.1 l.2 hb).1
    exact ⟨by simp [lab1, Nat.ne_of_lt this, hb], hold b this⟩
  have K : Keep N w ρ rt w' (lab1 ρ w.heap.size (id, [])) (upd rt id (some ⟨0, s, es⟩)) := by
    refine ⟨fun b hb hl => ⟨by simp [lab1, Nat.ne_of_lt hl, hb], hold b hl⟩, fun o nv p hNo hl => ?_, fun b l hb => hoth b _ hb⟩
    have hne : o ≠ id := by rintro rfl; exact hNo (hN nv)
    refine ⟨by simpa [live, look, valid, upd, hne] using hl, fun b n hb hbl => ?_⟩
    have := hoth b _ hb
    refine ⟨this.1, ?_⟩
    obtain ⟨arr', T', h1, h2⟩ := hbl
    exact ⟨arr', T', by rw [this.2]; exact h1, h2⟩
  refine ⟨?_, ?_, ?_, K, ?_⟩
  · intro o r h
    by_cases ho : o = id
    · subst ho
      simp [upd] at h
      subst h
      refine .inr ⟨w.heap.size, arr, T, g, by simp [lab1], hnew, hs, hc, fun i e k x he hx => ?_⟩
      exact RepV.under K (fun b l hb _ => hoth b _ hb) (hR i e k x he hx) (nh_cell (nhs_get hn he) hx)
    · simp [upd, ho] at h
      exact RowOk.under K (fun b l hb _ => hoth b _ hb) (H o r h) (hr o r h)
  · intro b b' L h h'
    unfold lab1 at h h'
    split at h <;> split at h'
    · simp_all
    · cases h
      exfalso
      rcases (hL b' _ _ h').2 with hu | ⟨r, hu⟩
      · rcases hU _ _ hu with h | h
        · omega
        · exact h.2 rfl
      · rw [hid] at hu; cases hu
    · cases h'
      exfalso
      rcases (hL b _ _ h).2 with hu | ⟨r, hu⟩
      · rcases hU _ _ hu with h | h
        · omega
        · exact h.2 rfl
      · rw [hid] at hu; cases hu
    · exact J _ _ _ h h'
  · intro o r h
    by_cases ho : o = id
    · simp [upd, ho] at h
      subst h
      exact hn
    · simp [upd, ho] at h
      exact hr o r h
  · refine ⟨fun b o l h => ?_, by simp [upd, Nat.ne_of_lt hp, hL.z], fun b l h => ?_⟩
    rotate_left
    · unfold lab1 at h
      split at h
      · cases h; exact absurd hp (Nat.lt_irrefl _)
      · exact hL.f b l h
    unfold lab1 at h
    split at h
    · cases h
      rename_i hb
      subst hb
      exact ⟨by rw [hw]; simp, .inr ⟨⟨0, s, es⟩, by simp [upd]⟩⟩
    · have := hL b o l h
      refine ⟨by rw [hw]; simp; omega, ?_⟩
      by_cases ho : o = id
      · exact .inr ⟨⟨0, s, es⟩, by simp [upd, ho]⟩
      · rcases this.2 with hu | ⟨r, hu⟩
        · rcases hU _ _ hu with h | h
          · exact .inl h
          · exact absurd h.1 ho
        · exact .inr ⟨r, by simp [upd, ho, hu]⟩

/-- Rows moved, then a new root: the whole step. -/
theorem Abs.newRoot {U : Pl} (a : Abs N w ρ rt ρ' rt' U) {id : Nat} (hp : 0 < id) (hU : ∀ o l, U o l → o = 0 ∨ (o = id ∧ l ≠ [])) (hid : rt id = none) (hN : ∀ nv, N id nv)
    {arr : Array Value} {T : TypeId} (hw : w'.heap = w.heap.push (.cells arr T (0, 0))) (hos : w'.os = w.os) (hout : w'.output = w.output) (htape : w'.tape = w.tape) {es : List V} {s : Nat} {g : Nat → Nat → Value} (hs : ∀ (i : Nat) (e : V), es[i]? = some e → (cells e).length = s)
    (hc : ∀ (i : Nat) (e : V) k x, es[i]? = some e → (cells e)[k]? = some x → arr[i * s + k]? = some (g i k))
    (hR : ∀ (i : Nat) (e : V) k x, es[i]? = some e → (cells e)[k]? = some x → RepV w ρ' rt' (some (id, [(i, k)])) x (g i k)) (hn : nhs es) :
    Eff N w ρ rt w' (lab1 ρ' w.heap.size (id, [])) (upd rt' id (some ⟨0, s, es⟩)) id := by
  obtain ⟨h1, h2, h3, h4, h5⟩ := Ln.newRoot a.rok a.inj a.rtn a.lab hp hU (a.gone hid) hN hw hs hc hR hn
  refine ⟨h1, h2, h3, a.keep.trans h4 (Nat.le_refl _), h5, Wk.push hw hos hout htape, fun o r h => ?_, fun b l h => ?_⟩
  rotate_left
  · unfold lab1 at h
    split at h
    · cases h; exact absurd hp (Nat.lt_irrefl _)
    · exact a.f0 b l h
  by_cases ho : o = id
  · subst ho; exact .inr ⟨Nat.le_refl _, by simp [room]⟩
  · simp [upd, ho] at h
    obtain ⟨r', h', e, _⟩ := a.nv o r h
    exact .inl ⟨r', h', by omega⟩

theorem blk_new {arr : Array Value} {T : TypeId} (hw : w'.heap = w.heap.push (.cells arr T (0, 0))) : Blk w' w.heap.size arr.size := ⟨arr, T, by rw [hw]; simp, rfl⟩
theorem new_hp {id nv s : Nat} {arr : Array Value} {T : TypeId} (hw : w'.heap = w.heap.push (.cells arr T (0, 0))) : RepV w' (lab1 ρ w.heap.size (id, [])) rt none (.hp id nv [] s 0 0) (.pointer (some ⟨w.heap.size, 0, none⟩)) :=
  .hp _ _ _ _ _ _ _ _ (fun _ => ⟨w.heap.size, _, by simp [lab1], blk_new hw, by simp⟩) trivial
theorem new_hs {id nv s len c : Nat} {arr : Array Value} {T : TypeId} (hw : w'.heap = w.heap.push (.cells arr T (0, 0))) (hlc : len ≤ c) (hcs : c * s ≤ arr.size) : RepV w' (lab1 ρ w.heap.size (id, [])) rt none (.hs id nv [] s 0 len) (.slice (some ⟨w.heap.size, 0, none⟩) len c) :=
  .hs _ _ _ _ _ _ _ _ (fun _ => ⟨c, _, rfl, hlc, fun _ => ⟨w.heap.size, _, by simp [lab1], blk_new hw, by simp, by simpa using hcs⟩⟩) trivial

theorem slot_vcells {at_ : Nat → Option Loc} {v : V} {u : Value} (h : Slot w ρ rt at_ v u) (hp : (cells v).all cellV = true) : ∃ g, u = pack v g ∧ u.cells = arrOf (cells v).length g ∧ ∀ k x, (cells v)[k]? = some x → RepV w ρ rt (at_ k) x (g k) := by
  obtain ⟨g, rfl, hg⟩ := h
  refine ⟨g, rfl, ?_, hg⟩
  by_cases ha : isAggV v = true
  · simp [pack, ha, Value.cells]
  · have ha' : isAggV v = false := by simpa using ha
    have hc := cells_one ha'
    have h1 := rep_one (hg 0 v (by simp [hc])) (by rw [hc] at hp; simpa using hp)
    rw [show pack v g = g 0 by simp [pack, ha'], h1.cells, hc]
    rfl
end Go.Ln
/- Operations that make memory. -/
set_option linter.unusedVariables false
set_option linter.unusedSimpArgs false
set_option linter.unusedSectionVars false
namespace Go.Ln
open Go
variable {w w' : World} {ρ ρ' ρ'' : Own} {rt rt' rt'' : Store} {N : Nat → Nat → Prop}

/-- Places that are not in use yet, and the ones that one operation is given. -/
structure Fresh (Un : Nat → Prop) (rt : Store) (id : Nat) : Prop where
  f : ∀ o, Un o → rt o = none
  u : ∀ o, id ≤ o → o < id + room → Un o
  p : 0 < id
theorem Fresh.uid {Un : Nat → Prop} {rt : Store} {id : Nat} (h : Fresh Un rt id) : Un id := h.u id (Nat.le_refl _) (by unfold room; omega)
theorem Fresh.at {Un : Nat → Prop} {rt : Store} {id : Nat} (h : Fresh Un rt id) : rt id = none := h.f id h.uid
structure Fresh0 (rt : Store) (id : Nat) : Prop where
  at' : rt id = none
  p : 0 < id
theorem Fresh.one {Un : Nat → Prop} {rt : Store} {id : Nat} (h : Fresh Un rt id) : Fresh0 rt id := ⟨h.at, h.p⟩
def less (Un : Nat → Prop) (id : Nat) : Nat → Prop := fun o => Un o ∧ ¬ (id ≤ o ∧ o < id + room)

def NewOf (Un : Nat → Prop) (rt : Store) (o nv : Nat) : Prop := Un o ∨ ∃ r, rt o = some r ∧ r.nv < nv

/-- What an operation comes to. -/
def Out (Un : Nat → Prop) (w : World) (ρ : Own) (rt : Store) (id : Nat) (v : V) (rt' : Store) (u : Value) (w' : World) : Prop :=
  ∃ ρ', Eff (NewOf Un rt) w ρ rt w' ρ' rt' id ∧ Slot w' ρ' rt' nowhere v u ∧ noNew (NewOf (less Un id) rt') v

theorem flat_set {i s : Nat} {v : V} : ∀ {es : List V}, (∀ e ∈ es, (cells e).length = s) → i < es.length → (es.set i v).flatMap cells = (es.flatMap cells).take (i * s) ++ cells v ++ (es.flatMap cells).drop (i * s + s) := by
  induction i with
  | zero =>
    intro es hs hi
    cases es with
    | nil => simp at hi
    | cons e es =>
      have he := hs e (by simp)
      simp [← he]
  | succ i ih =>
    intro es hs hi
    cases es with
    | nil => simp at hi
    | cons e es =>
      have he := hs e (by simp)
      have := ih (es := es) (fun e he => hs e (by simp [he])) (by simpa using hi)
      simp only [List.set_cons_succ, List.flatMap_cons, this]
      have h1 : ((i + 1) * s) = (cells e).length + i * s := by rw [he, Nat.succ_mul]; omega
      rw [h1, List.take_length_add_append, Nat.add_assoc, List.drop_length_add_append]
      simp [List.append_assoc]

theorem flat_get {s : Nat} : ∀ {es : List V} {i k : Nat} {e x : V}, (∀ e ∈ es, (cells e).length = s) → es[i]? = some e → (cells e)[k]? = some x → (es.flatMap cells)[i * s + k]? = some x
  | [], i, k, e, x, hs, he, hx => by simp at he
  | e0 :: es, 0, k, e, x, hs, he, hx => by
    simp at he
    subst he
    have hk := (List.getElem?_eq_some_iff.1 hx).1
    simp only [List.flatMap_cons, Nat.zero_mul, Nat.zero_add]
    rw [List.getElem?_append_left hk]
    exact hx
  | e0 :: es, i + 1, k, e, x, hs, he, hx => by
    have ih := flat_get (es := es) (i := i) (fun e he => hs e (by simp [he])) (by simpa using he) hx
    have h0 := hs e0 (by simp)
    simp only [List.flatMap_cons]
    rw [List.getElem?_append_right (by rw [h0, Nat.succ_mul]; omega), ← ih]
    congr 1
    rw [h0, Nat.succ_mul]
    omega

theorem flat_len {s : Nat} : ∀ {es : List V}, (∀ e ∈ es, (cells e).length = s) → (es.flatMap cells).length = es.length * s
  | [], h => by simp
  | e :: es, h => by
    simp only [List.flatMap_cons, List.length_append, List.length_cons]
    rw [flat_len fun e he => h e (by simp [he]), h e (by simp), Nat.succ_mul]
    omega

theorem putEls_fill {s : Nat} {a : Bool} : ∀ {pv : List (Nat × V)} {es es' : List V}, (∀ e ∈ es, (cells e).length = s) → putEls s a es pv = some es' → fillV (fun i => some (i * s, s)) (es.flatMap cells) pv = some (es'.flatMap cells)
  | [], es, es', hs, h => by simp [putEls] at h; simp [fillV, h]
  | (i, v) :: pv, es, es', hs, h => by
    simp only [putEls] at h
    split at h
    · rename_i hc
      obtain ⟨h1, h2, h3, h4⟩ := hc
      have hs' : ∀ e ∈ es.set i v, (cells e).length = s := fun e he => by
        rcases List.mem_or_eq_of_mem_set he with h | h
        · exact hs e h
        · rw [h]; exact h2
      have := putEls_fill hs' h
      simp only [fillV]
      rw [if_pos, ← flat_set hs h1]
      · exact this
      · refine ⟨h2, ?_, h4⟩
        rw [flat_len hs]
        have : i * s + s = (i + 1) * s := by rw [Nat.succ_mul]
        rw [this]
        exact Nat.mul_le_mul_right _ h1
    · cases h

theorem putEls_fit {s : Nat} {a : Bool} : ∀ {pv : List (Nat × V)} {es es' : List V}, putEls s a es pv = some es' → es'.length = es.length ∧ ∀ e ∈ es', e ∈ es ∨ ((cells e).length = s ∧ isAggV e = a ∧ ∃ p ∈ pv, p.2 = e)
  | [], es, es', h => by simp [putEls] at h; subst h; exact ⟨rfl, fun e he => .inl he⟩
  | (i, v) :: pv, es, es', h => by
    simp only [putEls] at h
    split at h
    · rename_i hc
      obtain ⟨l, ih⟩ := putEls_fit h
      refine ⟨by simpa using l, fun e he => ?_⟩
      rcases ih e he with h1 | ⟨h1, h2, p, hp, h3⟩
      · rcases List.mem_or_eq_of_mem_set h1 with h | h
        · exact .inl h
        · exact .inr ⟨by rw [h]; exact hc.2.1, by rw [h]; exact hc.2.2.1, (i, v), by simp, h.symm⟩
      · exact .inr ⟨h1, h2, p, by simp [hp], h3⟩
    · cases h

theorem mod_cell {n s k i : Nat} (hk : k < s) : (i * s + k) % s = k := by rw [Nat.mul_comm, Nat.mul_add_mod, Nat.mod_eq_of_lt hk]

/-- The zero row. -/
theorem zeros_get {z : Array Value} {n s i k : Nat} (hz : z.size = s) (hi : i < n) (hk : k < s) : (madeCells z (n * s))[i * s + k]? = z[k]? := by
  have hlt : i * s + k < n * s := by
    have : (i + 1) * s ≤ n * s := Nat.mul_le_mul_right _ hi
    rw [Nat.succ_mul] at this
    omega
  simp [madeCells, hlt, hz, mod_cell (n := 0) hk, hk]

theorem slot_g {at_ : Nat → Option Loc} {v : V} {u : Value} (h : Slot w ρ rt at_ v u) (hp : (cells v).all cellV = true) {k : Nat} {x : V} (hx : (cells v)[k]? = some x) : u.cells[k]? = some (u.cells.getD k undef) ∧ RepV w ρ rt (at_ k) x (u.cells.getD k undef) := by
  obtain ⟨g, _, hg2, hg3⟩ := slot_vcells h hp
  have hk := (List.getElem?_eq_some_iff.1 hx).1
  have : u.cells[k]? = some (g k) := by rw [hg2]; exact arrOf_get hk
  obtain ⟨hlt, e⟩ := Array.getElem?_eq_some_iff.1 this
  have hgd : u.cells.getD k undef = g k := by simp [Array.getD, hlt, e]
  rw [hgd]
  exact ⟨this, hg3 k x hx⟩

section
variable {P : Program} {E : Env} (A : Agree P E) {st : St} {a : Act} {o : Oper} (H : RtOk w ρ st.rt) (J : Inj ρ) (T : TmOk w ρ st.rt st.tm a.tmps) (hr : RtN st.rt) (hL : Lab w ρ st.rt noU) {Un : Nat → Prop} {id : Nat} (hm : TmN (NewOf Un st.rt) st.tm) (hi : Fresh Un st.rt id)
include A H J T hr hL hm hi

theorem new_val_hp {s : Nat} {es : List V} : noNew (NewOf (less Un id) (upd rt id (some ⟨0, s, es⟩))) (.hp id 0 [] s 0 0) := by
  simp only [noNew, NewOf, less, room]
  rintro (⟨_, h⟩ | ⟨r, h, h'⟩)
  · omega
  · omega
theorem new_val_hs {s n m : Nat} {es : List V} : noNew (NewOf (less Un id) (upd rt id (some ⟨0, s, es⟩))) (.hs id 0 [] s n m) := by
  simp only [noNew, NewOf, less, room]
  rintro (⟨_, h⟩ | ⟨r, h, h'⟩)
  · omega
  · omega

theorem n_alloc {t : TypeId} {v : V} {rt' : Store} (ho : o.op = .alloc t) (h : opV E id st o.op = some (v, rt')) :
    ∃ u w', (execOp a.eval o).run P w = .ok (.value u) w' ∧ Out Un w ρ st.rt id v rt' u w' := by
  rw [ho] at h
  simp only [opV, Option.bind_eq_some_iff, Option.map_eq_some_iff] at h
  obtain ⟨ti, hti, z, hz, h⟩ := h
  cases h
  have hzr := run_zeroValue' A hti w
  obtain ⟨g, hg1, hg2, hg3⟩ := slot_vcells (zeroV_rep (w := w) (ρ := ρ) (rt := st.rt) hz (fun k => some (id, [(0, k)]))) (zeroV_cell hz)
  have hN : ∀ nv, NewOf Un st.rt id nv := fun nv => .inl hi.uid
  refine ⟨.pointer (some ⟨w.heap.size, 0, none⟩), w.alloc (.cells ti.zv.cells t), ?_, lab1 ρ w.heap.size (id, []), ?_, Slot.mk1 rfl (new_hp rfl), new_val_hp A H J T hr hL hm hi⟩
  · simp [execOp, ho, Instr.alloc, Sem.run_bind, hzr, Result.andThen, newVar, newRow]
  · refine Abs.newRoot (w' := w.alloc (.cells ti.zv.cells t)) (es := [z]) (T := t) (g := fun _ k => g k) (Abs.refl H J hr hL) hi.p (fun o l h => .inl h) (hi.at) hN rfl rfl rfl rfl ?_ ?_ ?_ (by simpa [nhs] using zeroV_nh hz)
    · intro i e he
      cases i <;> simp at he
      rw [he]
    · intro i e k x he hx
      cases i <;> simp at he
      subst he
      rw [hg2, Nat.zero_mul, Nat.zero_add]
      exact arrOf_get (List.getElem?_eq_some_iff.1 hx).1
    · intro i e k x he hx
      cases i <;> simp at he
      subst he
      exact hg3 k x hx

theorem n_box {t : TypeId} {x : Operand} {v : V} {rt' : Store} (ho : o.op = .box t x) (h : opV E id st o.op = some (v, rt')) :
    ∃ u w', (execOp a.eval o).run P w = .ok (.value u) w' ∧ Out Un w ρ st.rt id v rt' u w' := by
  rw [ho] at h
  simp only [opV, Option.bind_eq_some_iff, Option.map_eq_some_iff] at h
  obtain ⟨xv, hx, ⟨y, rt1⟩, hy, h⟩ := h
  cases h
  have hid := hi.at
  obtain ⟨ρ1, ab, sl, yn, ya, yl, yc⟩ := absorb_ok (N := NewOf Un st.rt) (i := 0) H J hr hL (q := id) (fun j l h => absurd hi.p (by simp only [noU] at h; omega)) (Nat.ne_of_gt hi.p) hid (ev_rep T hx) (ev_nn hm hx) hy
  obtain ⟨g, hg1, hg2, hg3⟩ := slot_vcells sl yc
  have hN : ∀ nv, NewOf Un st.rt id nv := fun nv => .inl hi.uid
  refine ⟨.pointer (some ⟨w.heap.size, 0, none⟩), w.alloc (.cells (a.eval x).cells t), ?_, lab1 ρ1 w.heap.size (id, []), ?_, Slot.mk1 rfl (new_hp rfl), new_val_hp A H J T hr hL hm hi⟩
  · simp [execOp, ho, Instr.box, Sem.run_bind, Result.andThen, newVar, newRow]
  · refine Abs.newRoot (w' := w.alloc (.cells (a.eval x).cells t)) (es := [y]) (T := t) (g := fun _ k => g k) ab hi.p ?_ hid hN rfl rfl rfl rfl ?_ ?_ ?_ (by simpa [nhs] using yn)
    · rintro o l (h | ⟨h, j, _, h'⟩)
      · exact .inl h
      · refine .inr ⟨h, ?_⟩
        rintro rfl
        simp at h'
    · intro i e he
      cases i <;> simp at he
      rw [he]
    · intro i e k x he hx
      cases i <;> simp at he
      subst he
      rw [hg2, Nat.zero_mul, Nat.zero_add]
      exact arrOf_get (List.getElem?_eq_some_iff.1 hx).1
    · intro i e k x he hx
      cases i <;> simp at he
      subst he
      exact hg3 k x hx

theorem n_makeSlice {t : TypeId} {x y : Operand} {v : V} {rt' : Store} (ho : o.op = .makeSlice t x y) (h : opV E id st o.op = some (v, rt')) :
    ∃ u w', (execOp a.eval o).run P w = .ok (.value u) w' ∧ Out Un w ρ st.rt id v rt' u w' := by
  rw [ho] at h
  simp only [opV, Option.bind_eq_some_iff] at h
  obtain ⟨lv, hlv, cv, hcv, h⟩ := h
  split at h
  · rename_i e sz bt zv l c htt
    simp only [Option.bind_eq_some_iff] at h
    obtain ⟨ei, hei, z, hz, h⟩ := h
    split at h
    · rename_i hc
      cases h
      obtain ⟨c1, c2, c3, c4, c5, c6, c7⟩ := hc
      obtain ⟨i, hi1, hi2, hi3, hi4⟩ := A.info e ei hei
      have hu := A.und t _ htt
      simp only at hu
      have e1 := slot_int (ev_rep T hlv)
      have e2 := slot_int (ev_rep T hcv)
      have hzc : ei.zv.cells.size = ei.size := by
        have := (slot_cs (zeroV_rep (w := w) (ρ := ρ) (rt := st.rt) hz nowhere) (zeroV_cell hz)).1
        rw [← this]; exact c6
      have hc0 : 0 ≤ c := by omega
      have hcc : ((c.toNat : Nat) : Int) = c := by omega
      have hrun := run_make (P := P) w t e i ei.zv hu hi1 hi4 .i64 .i64 l c c1 c2 (by rw [hi3, Int.mul_comm]; have : (lim : Int) = 1099511627776 := rfl; omega) (by have : (lim : Int) = 1099511627776 := rfl; omega)
      have hN : ∀ nv, NewOf Un st.rt id nv := fun nv => .inl hi.uid
      refine ⟨.slice (some ⟨w.heap.size, 0, none⟩) l.toNat c.toNat, w.alloc (.cells (madeCells ei.zv.cells (c.toNat * i.size)) e), ?_, lab1 ρ w.heap.size (id, []), ?_, Slot.mk1 rfl (new_hs rfl (by omega) (by rw [size_madeCells, hi2]; exact Nat.le_refl _)), new_val_hs A H J T hr hL hm hi⟩
      · simp only [execOp, ho, Sem.run_bind, e1, e2, hrun, Result.andThen, Sem.run_pure]
      · refine Abs.newRoot (w' := w.alloc (.cells (madeCells ei.zv.cells (c.toNat * i.size)) e)) (es := List.replicate l.toNat z) (T := e) (g := fun i k => ei.zv.cells.getD k undef) (Abs.refl H J hr hL) hi.p (fun o l h => .inl h) (hi.at) hN rfl rfl rfl rfl ?_ ?_ ?_ ?_
        · intro i e he
          have := List.eq_of_mem_replicate (List.mem_of_getElem? he)
          rw [this]; exact c6
        · intro j e k x he hx
          have hj := (List.getElem?_eq_some_iff.1 he).1
          have := List.eq_of_mem_replicate (List.mem_of_getElem? he)
          subst this
          have hk := (List.getElem?_eq_some_iff.1 hx).1
          rw [hi2, zeros_get hzc (by simp at hj; omega) (by omega)]
          exact (slot_g (zeroV_rep (w := w) (ρ := ρ) (rt := st.rt) hz nowhere) (zeroV_cell hz) hx).1
        · intro j e k x he hx
          have := List.eq_of_mem_replicate (List.mem_of_getElem? he)
          subst this
          exact (slot_g (zeroV_rep (w := w) (ρ := ρ) (rt := st.rt) hz (fun k => some (id, [(j, k)]))) (zeroV_cell hz) hx).2
        · refine nhs_iff.2 fun x hx => ?_
          rw [List.eq_of_mem_replicate hx]
          exact zeroV_nh hz
    · cases h
  · cases h
theorem n_buildSlice {t : TypeId} {n : Nat} {ps : Array (Nat × Operand)} {v : V} {rt' : Store} (ho : o.op = .buildSlice t n ps) (h : opV E id st o.op = some (v, rt')) :
    ∃ u w', (execOp a.eval o).run P w = .ok (.value u) w' ∧ Out Un w ρ st.rt id v rt' u w' := by
  rw [ho] at h
  simp only [opV, Option.bind_eq_some_iff] at h
  obtain ⟨pv, hpv, h⟩ := h
  split at h
  · rename_i e sz bt zv htt
    simp only [Option.bind_eq_some_iff] at h
    obtain ⟨ei, hei, z, hz, h⟩ := h
    split at h
    · rename_i hc
      obtain ⟨c1, c2, c3, c4⟩ := hc
      simp only [Option.bind_eq_some_iff, Option.map_eq_some_iff] at h
      obtain ⟨es, hes, ⟨ys, rt1⟩, hys, h⟩ := h
      cases h
      obtain ⟨i, hi1, hi2, hi3, hi4⟩ := A.info e ei hei
      have hu := A.und t _ htt
      simp only at hu
      have hzs := slot_cs (zeroV_rep (w := w) (ρ := ρ) (rt := st.rt) hz nowhere) (zeroV_cell hz)
      have hzc : ei.zv.cells.size = ei.size := by rw [← hzs.1]; exact c3
      have hrep : ∀ e ∈ List.replicate n z, (cells e).length = ei.size := fun e he => by rw [List.eq_of_mem_replicate he]; exact c3
      have hcs0 : Cs w ρ st.rt ((List.replicate n z).flatMap cells) (madeCells ei.zv.cells (n * ei.size)) := by
        refine ⟨by rw [flat_len hrep, size_madeCells]; simp, fun k x y hx hy => ?_⟩
        have hk := (List.getElem?_eq_some_iff.1 hx).1
        rw [flat_len hrep, List.length_replicate] at hk
        have hd : k / ei.size < n := Nat.div_lt_of_lt_mul (by rw [Nat.mul_comm]; exact hk)
        have hm' : k % ei.size < ei.size := Nat.mod_lt _ c2
        have hdm : k / ei.size * ei.size + k % ei.size = k := by rw [Nat.mul_comm]; exact Nat.div_add_mod k ei.size
        have h1 := flat_get (i := k / ei.size) (k := k % ei.size) (e := z) hrep (by simp [hd]) (List.getElem?_eq_getElem (by omega))
        rw [hdm, hx] at h1
        have h2 := zeros_get (n := n) hzc hd hm'
        rw [hdm, hy] at h2
        cases h1
        exact hzs.2 _ _ _ (List.getElem?_eq_getElem _) h2.symm
      obtain ⟨hlen, hpr⟩ := evParts_rep T hpv
      obtain ⟨fl, ff⟩ := putEls_fit hes
      have hses : ∀ e ∈ es, (cells e).length = ei.size := fun e he => by
        rcases ff e he with h | h
        · exact hrep e h
        · exact h.1
      obtain ⟨arr, hf1, hf2⟩ := fill_rep hcs0 (putEls_fill hrep hes) (pu := ps.toList.map fun x => (x.1, a.eval x.2)) (by simp [hlen]) hpr
      have hparts : (ps.map fun (x : Nat × Operand) => (x.1, a.eval x.2)).toList = ps.toList.map fun x => (x.1, a.eval x.2) := by simp
      have hslot : ∀ (i : Nat) x, es[i]? = some x → ∀ (k : Nat) y, (cells x)[k]? = some y → arr[i * ei.size + k]? = some (arr.getD (i * ei.size + k) undef) ∧ RepV w ρ st.rt none y (arr.getD (i * ei.size + k) undef) := by
        intro i x hx k y hy
        have h1 := flat_get hses hx hy
        have hlt := (List.getElem?_eq_some_iff.1 h1).1
        rw [hf2.1] at hlt
        have h2 : arr[i * ei.size + k]? = some (arr.getD (i * ei.size + k) undef) := by simp [Array.getD, hlt]
        exact ⟨h2, hf2.2 _ _ _ h1 h2⟩
      have hnn : noNews (NewOf Un st.rt) es := noNews_iff.2 fun x hx => by
        rcases ff x hx with h | ⟨_, _, p, hp, rfl⟩
        · rw [List.eq_of_mem_replicate h]; exact nh_noNew (zeroV_nh hz)
        · exact evParts_nn hm hpv p hp
      have hid := hi.at
      obtain ⟨ρ1, ab, yl, yr⟩ := absorbEach_ok (N := NewOf Un st.rt) (q := id) (i0 := 0) (g := fun i => pack (es.getD i .und) (fun k => arr.getD (i * ei.size + k) undef)) H J hr hL (fun i j l _ h => absurd hi.p (by simp only [noU] at h; omega)) (Nat.ne_of_gt hi.p) hid (fun i x hx => by
        refine ⟨fun k => arr.getD (i * ei.size + k) undef, by rw [List.getD_eq_getElem?_getD, hx]; rfl, fun k y hy => (hslot i x hx k y hy).2⟩) hnn hys
      have hN : ∀ nv, NewOf Un st.rt id nv := fun nv => .inl hi.uid
      have hnl : n = es.length := by simpa using fl.symm
      have harr : arr.size = n * ei.size := by rw [← hf2.1, flat_len hses, hnl]
      have hyg : ∀ (j : Nat) x, ys[j]? = some x → ∃ y, es[j]? = some y := fun j x hx => by
        have := (List.getElem?_eq_some_iff.1 hx).1
        exact ⟨_, List.getElem?_eq_getElem (by omega)⟩
      have hyr : ∀ (i : Nat) (x y : V), ys[i]? = some x → es[i]? = some y → Slot w ρ1 rt1 (fun k => some (id, [(i, k)])) x (pack y (fun k => arr.getD (i * ei.size + k) undef)) ∧ nh x ∧ isAggV x = isAggV y ∧ (cells x).length = (cells y).length := by
        intro i x y hx hy
        have := yr i x y hx hy
        rw [List.getD_eq_getElem?_getD, hy, Nat.zero_add] at this
        exact ⟨this.1, this.2.1, this.2.2.1, this.2.2.2.1⟩
      refine ⟨.slice (some ⟨w.heap.size, 0, none⟩) n n, w.alloc (.cells arr e), ?_, lab1 ρ1 w.heap.size (id, []), ?_, Slot.mk1 rfl (new_hs rfl (Nat.le_refl _) (by rw [harr]; exact Nat.le_refl _)), new_val_hs A H J T hr hL hm hi⟩
      · have hnot : ¬ (16777216 < n * ei.size) := by omega
        simp only [execOp, ho, Instr.buildSlice, Sem.run_bind, run_underlying hu, Result.andThen, run_sizeOf' A hei, Sem.run_pure, hparts]
        rw [if_neg (by simpa using hnot)]
        by_cases h0 : n * ei.size = 0
        · have hf1' : Instr.fill (fun i => some (i * ei.size, ei.size)) (Array.map (fun x => (#[] : Array Value)[x % 0]!) (Array.range (n * ei.size))) (List.map (fun x => (x.fst, a.eval x.snd)) ps.toList) = some arr := by
            rw [← hf1]
            congr 1
            simp [h0, madeCells]
          simp only [if_pos h0, Sem.run_bind, Sem.run_pure, Result.andThen, Array.size_empty, hf1', newRow, run_newObj, World.alloc]
        · have hf1' : Instr.fill (fun i => some (i * ei.size, ei.size)) (Array.map (fun x => ei.zv.cells[x % ei.zv.cells.size]!) (Array.range (n * ei.size))) (List.map (fun x => (x.fst, a.eval x.snd)) ps.toList) = some arr := hf1
          simp only [if_neg h0, Sem.run_bind, run_zeroValue' A hei w, Sem.run_pure, Result.andThen, hf1', newRow, run_newObj, World.alloc]
      · refine Abs.newRoot (w' := w.alloc (.cells arr e)) (es := ys) (T := e) (g := fun i k => arr.getD (i * ei.size + k) undef) ab hi.p ?_ hid hN rfl rfl rfl rfl ?_ ?_ ?_ ?_
        · rintro o l (h | ⟨h, i, k, _, h'⟩)
          · exact .inl h
          · refine .inr ⟨h, ?_⟩
            rintro rfl
            simp at h'
        · intro j x hx
          obtain ⟨y, hy⟩ := hyg j x hx
          rw [(hyr j x y hx hy).2.2.2]
          exact hses y (List.mem_of_getElem? hy)
        · intro j x k c hx hcx
          obtain ⟨y, hy⟩ := hyg j x hx
          have hk := (List.getElem?_eq_some_iff.1 hcx).1
          rw [(hyr j x y hx hy).2.2.2] at hk
          exact (hslot j y hy k _ (List.getElem?_eq_getElem hk)).1
        · intro j x k c hx hcx
          obtain ⟨y, hy⟩ := hyg j x hx
          obtain ⟨h1, h2, h3, h4⟩ := hyr j x y hx hy
          exact slot_pack h1 h3 h4 k c hcx
        · refine nhs_iff.2 fun x hx => ?_
          obtain ⟨j, hj⟩ := List.mem_iff_getElem?.1 hx
          obtain ⟨y, hy⟩ := hyg j x hj
          exact (hyr j x y hj hy).2.1
    · cases h
  · cases h
end
end Go.Ln
/- A store: what was moved is put into a cell of a row. -/
set_option linter.unusedVariables false
set_option linter.unusedSimpArgs false
set_option linter.unusedSectionVars false
namespace Go.Ln
open Go
variable {w w' : World} {ρ ρ' ρ'' : Own} {rt rt' rt'' : Store} {N : Nat → Nat → Prop}

theorem rowOk_upd {o : Nat} {p0 : List (Nat × Nat)} {s : Nat} {es es' : List V} (h : RowOk w ρ rt (o, p0) s es) (hl : es'.length = es.length) (hs : ∀ (i : Nat) (e' : V), es'[i]? = some e' → (cells e').length = s)
    (hB : ∀ b arr T, ρ b = some (o, p0) → w.heap[b]? = some (.cells arr T (0, 0)) → ∃ arr', ρ' b = some (o, p0) ∧ w'.heap[b]? = some (.cells arr' T (0, 0)) ∧ ∀ (i : Nat) (e' : V) k y, es'[i]? = some e' → (cells e')[k]? = some y → ∃ z, arr'[i * s + k]? = some z ∧ RepV w' ρ' rt' (some (o, p0 ++ [(i, k)])) y z) :
    RowOk w' ρ' rt' (o, p0) s es' := by
  rcases h with rfl | ⟨b, arr, T, g, h1, h2, h3, h4, h5⟩
  · exact .inl (List.length_eq_zero_iff.1 (by simpa using hl))
  · obtain ⟨arr', q1, q2, q3⟩ := hB b arr T h1 h2
    refine .inr ⟨b, arr', T, fun i k => arr'.getD (i * s + k) undef, q1, q2, hs, fun i e k x he hx => ?_, fun i e k x he hx => ?_⟩
    · obtain ⟨z, hz, _⟩ := q3 i e k x he hx
      have hlt := (Array.getElem?_eq_some_iff.1 hz).1
      simp [Array.getD, hlt]
    · obtain ⟨z, hz, hr⟩ := q3 i e k x he hx
      obtain ⟨hlt, e1⟩ := Array.getElem?_eq_some_iff.1 hz
      simp only [Array.getD, hlt, dif_pos, Loc.at]
      rw [show arr'.getInternal (i * s + k) hlt = z from e1]
      exact hr

def under (p : List (Nat × Nat)) (i k n : Nat) (l : List (Nat × Nat)) : Prop := ∃ j t, j < n ∧ l = p ++ (i, k + j) :: t

open Classical in
/-- The labels behind a store of 'n' cells at cell 'k' of element 'i'. -/
noncomputable def putOwn (ρ : Own) (q o : Nat) (p : List (Nat × Nat)) (i k n : Nat) : Own := fun b =>
  match ρ b with
  | none => none
  | some (o', l) => if o' = q then (match l with
      | (_, j) :: t => some (o, p ++ (i, k + j) :: t)
      | [] => none) else if o' = o ∧ under p i k n l then none else some (o', l)

theorem putOwn_none {q o p i k n b} (h : ρ b = none) : putOwn ρ q o p i k n b = none := by simp [putOwn, h]
theorem putOwn_moved {q o p i k n b i0 j t} (h : ρ b = some (q, (i0, j) :: t)) : putOwn ρ q o p i k n b = some (o, p ++ (i, k + j) :: t) := by simp [putOwn, h]
theorem putOwn_other {q o p i k n b o' l} (h : ρ b = some (o', l)) (hq : o' ≠ q) (hu : ¬ (o' = o ∧ under p i k n l)) : putOwn ρ q o p i k n b = some (o', l) := by
  simp only [putOwn, h, hq, if_false]
  rw [if_neg hu]
theorem putOwn_inv {q o p i k n b o' l} (h : putOwn ρ q o p i k n b = some (o', l)) : (∃ i0 j t, ρ b = some (q, (i0, j) :: t) ∧ o' = o ∧ l = p ++ (i, k + j) :: t) ∨ (o' ≠ q ∧ ρ b = some (o', l) ∧ ¬ (o' = o ∧ under p i k n l)) := by
  unfold putOwn at h
  split at h
  · cases h
  · rename_i o1 l1 hb
    split at h
    · rename_i hq
      subst hq
      split at h
      · rename_i i0 j t
        cases h
        exact .inl ⟨i0, j, t, hb, rfl, rfl⟩
      · cases h
    · rename_i hq
      split at h
      · cases h
      · rename_i hu
        cases h
        exact .inr ⟨hq, hb, hu⟩

theorem seg_get {xs ys : List V} {k n k' : Nat} (hn : ys.length = n) (hk : k + n ≤ xs.length) : (xs.take k ++ ys ++ xs.drop (k + n))[k']? = if k ≤ k' ∧ k' < k + n then ys[k' - k]? else xs[k']? := by
  split
  · rename_i h
    rw [List.append_assoc, List.getElem?_append_right (by simp; omega), List.getElem?_append_left (by simp; omega)]
    congr 1
    simp
    omega
  · rename_i h
    by_cases h2 : k' < k
    · rw [List.append_assoc, List.getElem?_append_left (by simp; omega), List.getElem?_take, if_pos h2]
    · rw [List.getElem?_append_right (by simp; omega), List.getElem?_drop]
      congr 1
      simp
      omega
theorem seg_get' {xs ys : List Value} {k n k' : Nat} (hn : ys.length = n) (hk : k + n ≤ xs.length) : (xs.take k ++ ys ++ xs.drop (k + n))[k']? = if k ≤ k' ∧ k' < k + n then ys[k' - k]? else xs[k']? := by
  split
  · rename_i h
    rw [List.append_assoc, List.getElem?_append_right (by simp; omega), List.getElem?_append_left (by simp; omega)]
    congr 1
    simp
    omega
  · rename_i h
    by_cases h2 : k' < k
    · rw [List.append_assoc, List.getElem?_append_left (by simp; omega), List.getElem?_take, if_pos h2]
    · rw [List.getElem?_append_right (by simp; omega), List.getElem?_drop]
      congr 1
      simp
      omega

/-- The element behind a store. -/
def putCells (e : V) (k n : Nat) (ys : List V) : V :=
  let cs' := (cells e).take k ++ ys ++ (cells e).drop (k + n)
  if isAggV e then .agg cs' else cs'.headD .dead

theorem putCells_get {e : V} {k n k' : Nat} {ys : List V} (hn : ys.length = n) (hk : k + n ≤ (cells e).length) (h0 : 0 < n) (hc : ys.all cellV = true) : (cells (putCells e k n ys))[k']? = if k ≤ k' ∧ k' < k + n then ys[k' - k]? else (cells e)[k']? := by
  unfold putCells
  by_cases ha : isAggV e = true
  · simp only [ha, if_true]
    exact seg_get hn hk
  · have ha' : isAggV e = false := by simpa using ha
    have hce := cells_one ha'
    rw [hce] at hk
    have hk0 : k = 0 := by simp at hk; omega
    have hn1 : n = 1 := by simp at hk; omega
    subst hk0
    match ys, hn with
    | [y], hn =>
      subst hn1
      have hy : cellV y = true := by simpa using hc
      have hya : isAggV y = false := by cases y <;> first | rfl | exact absurd hy (by simp [cellV])
      simp only [ha', hce]
      simp only [List.take_zero, List.nil_append, List.cons_append, Bool.false_eq_true, if_false, List.headD_cons, cells_one hya]
      cases k' <;> simp
    | [], hn => simp at hn; omega
    | _ :: _ :: _, hn => simp at hn; omega
theorem putCells_len {e : V} {k n : Nat} {ys : List V} (hn : ys.length = n) (hk : k + n ≤ (cells e).length) (h0 : 0 < n) (hc : ys.all cellV = true) : (cells (putCells e k n ys)).length = (cells e).length := by
  unfold putCells
  by_cases ha : isAggV e = true
  · simp only [ha, if_true]
    rw [show ∀ cs, cells (.agg cs) = cs from fun _ => rfl]
    simp [hn]
    omega
  · have ha' : isAggV e = false := by simpa using ha
    have hce := cells_one ha'
    rw [hce] at hk
    have hk0 : k = 0 := by simp at hk; omega
    have hn1 : n = 1 := by simp at hk; omega
    subst hk0
    match ys, hn with
    | [y], hn =>
      subst hn1
      have hy : cellV y = true := by simpa using hc
      have hya : isAggV y = false := by cases y <;> first | rfl | exact absurd hy (by simp [cellV])
      simp only [ha', hce]
      simp [cells_one hya]
    | [], hn => simp at hn; omega
    | _ :: _ :: _, hn => simp at hn; omega
theorem putCells_nh {e : V} {k n : Nat} {ys : List V} (he : nh e) (hy : nhs ys) : nh (putCells e k n ys) := by
  have hcs : nhs ((cells e).take k ++ ys ++ (cells e).drop (k + n)) := nhs_iff.2 fun x hx => by
    have h1 := nhs_iff.1 (nh_cells he)
    simp only [List.mem_append] at hx
    rcases hx with (hx | hx) | hx
    · exact h1 x (List.mem_of_mem_take hx)
    · exact nhs_iff.1 hy x hx
    · exact h1 x (List.mem_of_mem_drop hx)
  unfold putCells
  simp only
  split
  · simpa [nh] using hcs
  · cases h : ((cells e).take k ++ ys ++ (cells e).drop (k + n)) with
    | nil => simp [nh]
    | cons x xs => rw [h] at hcs; exact hcs.1

theorem plain_row {v : V} (h : plainV v = true) {t : List (Nat × Nat)} {s : Nat} : (match v with
    | .usl s' es' => rowAt t s' es'
    | .uptr e' => rowAt t (cells e').length [e']
    | _ => none) = none := by
  cases v <;> first | rfl | exact absurd h (by simp [plainV])

section
variable {P : Program} {E : Env} (A : Agree P E) {st : St} {a : Act} {o : Oper} (H : RtOk w ρ st.rt) (J : Inj ρ) (T : TmOk w ρ st.rt st.tm a.tmps) (hr : RtN st.rt) (hL : Lab w ρ st.rt noU) {Un : Nat → Prop} {id : Nat} (hm : TmN (NewOf Un st.rt) st.tm) (hi : Fresh Un st.rt id)
include A H J T hr hL hm hi

theorem n_store {t : TypeId} {p x : Operand} {v : V} {rt' : Store} (ho : o.op = .store t p x) (h : opV E id st o.op = some (v, rt')) :
    ∃ w', (execOp a.eval o).run P w = .ok .skip w' ∧ Out Un w ρ st.rt id v rt' undef w' := by
  rw [ho] at h
  simp only [opV, Option.bind_eq_some_iff, Option.map_eq_some_iff] at h
  obtain ⟨pv, hp, xv, hx, rt2, h, hh⟩ := h
  cases hh
  unfold storeV at h
  split at h
  · rename_i o1 nv path s i k
    simp only [Option.bind_eq_some_iff] at h
    obtain ⟨ti, hti, ⟨y, rt1⟩, hy, h⟩ := h
    split at h
    · rename_i hc
      obtain ⟨c1, c2, c0⟩ := hc
      simp only at c1 c2
      simp only [Option.bind_eq_some_iff] at h
      obtain ⟨r, hval, ⟨s1, z⟩, hz, h⟩ := h
      split at h
      · rename_i hs1
        simp only at hs1
        subst hs1
        simp only [Option.bind_eq_some_iff] at h
        obtain ⟨e, he, h⟩ := h
        split at h
        · rename_i hk
          simp only [Option.map_eq_some_iff] at h
          obtain ⟨es, hes, h⟩ := h
          have hid := hi.at
          obtain ⟨ρ1, ab, sl, yn, ya, yl, yc⟩ := absorb_ok (N := NewOf Un st.rt) (i := 0) H J hr hL (q := id) (fun j l h => absurd hi.p (by simp only [noU] at h; omega)) (Nat.ne_of_gt hi.p) hid (ev_rep T hx) (ev_nn hm hx) hy
          have hnp := ev_nn hm hp
          simp only [noNew] at hnp
          obtain ⟨hro, hvv⟩ := valid_some hval
          have hlive1 : live rt1 o1 nv path := by simp [live, look, hval, hz]
          obtain ⟨hlive, hkb⟩ := ab.keep.k2 o1 nv path hnp hlive1
          have hpr := Slot.one rfl (ev_rep T hp)
          have hne : o1 ≠ id := by
            rintro rfl
            rw [ab.gone hid] at hro
            cases hro
          obtain ⟨b, n, hb, hbl, hu⟩ : ∃ b n, ρ b = some (o1, path) ∧ Blk w b n ∧ a.eval p = .pointer (some ⟨b, i * s1 + k, none⟩) := by
            generalize a.eval p = up at hpr
            cases hpr with
            | hp _ _ _ _ _ _ _ _ hh _ => exact hh hlive
          obtain ⟨hb1, arr, TT, hbb, hsz⟩ := hkb b n hb hbl
          have hrow := rowOk_path (p0 := []) (ab.rok o1 r hro) hz
          simp only [List.nil_append] at hrow
          have hzn : nhs z := rowAt_nh (ab.rtn o1 r hro) hz
          have hen := nhs_get hzn he
          have hil := (List.getElem?_eq_some_iff.1 he).1
          obtain ⟨g, hg⟩ : ∃ g : Nat → Nat → Value, (∀ (i : Nat) (e : V), z[i]? = some e → (cells e).length = s1) ∧ (∀ (i : Nat) (e : V) k x, z[i]? = some e → (cells e)[k]? = some x → arr[i * s1 + k]? = some (g i k)) ∧
              (∀ (i : Nat) (e : V) k x, z[i]? = some e → (cells e)[k]? = some x → RepV w ρ1 rt1 (some (o1, path ++ [(i, k)])) x (g i k)) := by
            rcases hrow with rfl | ⟨b', arr', T', g, h1, h2, h3, h4, h5⟩
            · simp at he
            · have := ab.inj b b' _ hb1 h1
              subst this
              rw [hbb] at h2
              cases h2
              exact ⟨g, h3, h4, h5⟩
          obtain ⟨hg1, hg2, hg3⟩ := hg
          have hes1 := hg1 i e he
          -- what is written
          have hcu : ∀ (j : Nat) c, (cells y)[j]? = some c → (a.eval x).cells[j]? = some ((a.eval x).cells.getD j undef) ∧ RepV w ρ1 rt1 (some (id, [(0, j)])) c ((a.eval x).cells.getD j undef) := fun j c hj => slot_g sl yc hj
          have hun : (a.eval x).cells.size = ti.size := by
            obtain ⟨g', _, hg', _⟩ := slot_vcells sl yc
            rw [hg', arrOf_size]
            exact c1
          have hone : ∀ u ∈ (a.eval x).cells.toList, u.oneCell' = true := by
            intro u hu'
            obtain ⟨j, hj⟩ := List.mem_iff_getElem?.1 hu'
            have hjl := (List.getElem?_eq_some_iff.1 hj).1
            simp only [Array.length_toList, hun] at hjl
            have hcj : (cells y)[j]? = some ((cells y)[j]'(by omega)) := List.getElem?_eq_getElem _
            obtain ⟨q1, q2⟩ := hcu j _ hcj
            simp only [Array.getElem?_toList] at hj
            rw [hj] at q1
            have := rep_one q2 (List.all_eq_true.1 yc _ (List.mem_of_getElem? hcj))
            rw [← Option.some.inj q1] at this
            cases u <;> first | rfl | exact this.elim
          have hfit : i * s1 + k + ti.size ≤ arr.size := by
            have : (cells e)[k + ti.size - 1]? = some ((cells e)[k + ti.size - 1]'(by omega)) := List.getElem?_eq_getElem _
            have := (Array.getElem?_eq_some_iff.1 (hg2 i e _ _ he this)).1
            omega
          have hrun := run_storeCells_at P b (i * s1 + k) TT (a.eval x).cells.toList 0 arr w hbb (by simp [hun]; omega) hone
          simp only [Nat.add_zero, Array.length_toList, hun] at hrun
          generalize harr' : (arr.toList.take (i * s1 + k) ++ (a.eval x).cells.toList ++ arr.toList.drop (i * s1 + k + ti.size)).toArray = arr' at hrun
          have hget' : ∀ j, arr'[j]? = if i * s1 + k ≤ j ∧ j < i * s1 + k + ti.size then (a.eval x).cells[j - (i * s1 + k)]? else arr[j]? := fun j => by
            rw [← harr', List.getElem?_toArray, seg_get' (n := ti.size) (by simp [hun]) (by simpa using hfit)]
            simp
          have hsz' : arr'.size = arr.size := by rw [← harr']; simp [hun]; omega
          have hw1 := setRow_heap w b arr arr' TT (0, 0) hbb
          have hw2 : ∀ c, c ≠ b → (w.setRow b arr').heap[c]? = w.heap[c]? := fun c hc => setRow_other w b c arr' hc
          refine ⟨w.setRow b arr', ?_, putOwn ρ1 id o1 path i k ti.size, ?_, Slot.mk1 rfl (.und _), by simp [noNew]⟩
          · have hsz2 : (sizeOf t).run P w = .ok ti.size w := run_sizeOf' A hti w
            simp only [execOp, ho, hu, Instr.storeAt, Instr.sureAddr, storeVar, Sem.run_bind, Sem.run_pure, Result.andThen, hsz2, hun]
            simp [hrun]
          -- the store behind it
          generalize hnv' : (if (((((cells e).drop k).take ti.size).all plainV && (cells y).all plainV) = true) then r.nv else r.nv + 1) = nv' at h
          have hpc : (if isAggV e = true then V.agg ((cells e).take k ++ cells y ++ (cells e).drop (k + ti.size)) else ((cells e).take k ++ cells y ++ (cells e).drop (k + ti.size)).headD .dead) = putCells e k ti.size (cells y) := rfl
          simp only [hpc] at hes
          have hk' : k + ti.size ≤ (cells e).length := hk
          subst h
          generalize hE : putCells e k ti.size (cells y) = e' at hes
          have hel : (cells e').length = (cells e).length := by rw [← hE]; exact putCells_len c1 hk' c0 yc
          have heg : ∀ k', (cells e')[k']? = if k ≤ k' ∧ k' < k + ti.size then (cells y)[k' - k]? else (cells e)[k']? := fun k' => by rw [← hE]; exact putCells_get c1 hk' c0 yc
          have hen' : nh e' := by rw [← hE]; exact putCells_nh hen (nh_cells yn)
          have hlabid : ∀ c l, ρ1 c = some (id, l) → ∃ j t, l = (0, j) :: t ∧ j < ti.size := by
            intro c l hl
            rcases (ab.lab c id l hl).2 with (h1 | ⟨_, j, h1, t, h2⟩) | ⟨r, h1⟩
            · exact absurd hi.p (by simp only [noU] at h1; omega)
            · refine ⟨j, t, by rw [← h2]; simp, by rw [← c1, yl]; exact h1⟩
            · rw [ab.gone hid] at h1; cases h1
          have ho0 : 0 ≠ o1 := by rintro rfl; rw [ab.lab.z] at hro; cases hro
          have hund : ∀ l, ¬ path <+: l → ¬ under path i k ti.size l := by
            rintro l hl ⟨j, t, _, rfl⟩
            exact hl (List.prefix_append _ _)
          have hneb : ∀ c l, ρ1 c = some (o1, l) → l ≠ path → c ≠ b := by
            rintro c l h1 h2 rfl
            rw [hb1] at h1
            cases h1
            exact h2 rfl
          have hneb' : ∀ c o' l, ρ1 c = some (o', l) → o' ≠ o1 → c ≠ b := by
            rintro c o' l h1 h2 rfl
            rw [hb1] at h1
            cases h1
            exact h2 rfl
          have hselfu : ¬ under path i k ti.size path := by
            rintro ⟨j, t, _, h1⟩
            have := congrArg List.length h1
            simp at this
          have blk : ∀ c n, Blk w c n → Blk (w.setRow b arr') c n := by
            intro c n hcb
            by_cases hcb2 : c = b
            · subst hcb2
              obtain ⟨arr2, T2, q1, q2⟩ := hcb
              rw [hbb] at q1
              cases q1
              exact ⟨arr', _, hw1, by rw [hsz', q2]⟩
            · obtain ⟨arr2, T2, q1, q2⟩ := hcb
              exact ⟨arr2, T2, by rw [hw2 c hcb2]; exact q1, q2⟩
          have K : Keep (NewOf Un st.rt) w ρ1 rt1 (w.setRow b arr') (putOwn ρ1 id o1 path i k ti.size) (upd rt1 o1 (some { nv := nv', s := r.s, es := es })) := by
            refine ⟨fun c hc hlt => ⟨putOwn_none hc, hw2 c (by rintro rfl; rw [hb1] at hc; cases hc)⟩, fun o' nv2 p' hN hl => ?_, fun c l hc => ⟨putOwn_other hc (by have := hi.p; omega) (by simp [ho0]), hw2 c (hneb' _ _ _ hc ho0)⟩⟩
            by_cases ho' : o' = o1
            · subst ho'
              have hl2 : (p' = [] ∨ nv' = nv2) ∧ (rowAt p' r.s es).isSome = true := by
                unfold live look at hl
                cases hvv' : valid (upd rt1 o' (some { nv := nv', s := r.s, es := es })) o' nv2 p' with
                | none => simp [hvv'] at hl
                | some r2 =>
                  obtain ⟨h1, h2⟩ := valid_some hvv'
                  simp [upd] at h1
                  subst h1
                  simp only [hvv', Option.bind_some] at hl
                  exact ⟨h2, hl⟩
              have hnb : nv2 ≤ r.nv := by
                obtain ⟨r0, h1, h2, _⟩ := ab.nv o' r hro
                rw [h2]
                exact Nat.le_of_not_lt fun hlt => hN (.inr ⟨r0, h1, hlt⟩)
              have key : live rt1 o' nv2 p' ∧ ¬ under path i k ti.size p' := by
                by_cases hp' : p' = []
                · subst hp'
                  refine ⟨by simp [live, look, valid, hro, rowAt], ?_⟩
                  rintro ⟨j, t, _, h1⟩
                  have := congrArg List.length h1
                  simp at this
                · have hnv2 := hl2.1.resolve_left hp'
                  split at hnv'
                  · rename_i hpl
                    simp only [Bool.and_eq_true] at hpl
                    have hyp : ∀ (j : Nat) c, (cells y)[j]? = some c → plainV c = true := fun j c hj => List.all_eq_true.1 hpl.2 c (List.mem_of_getElem? hj)
                    have hnewrow : ∀ t, (rowAt t s1 (z.set i e')).isSome = true → (rowAt t s1 z).isSome = true ∧ ¬ under [] i k ti.size t := by
                      intro t ht
                      match t, ht with
                      | [], _ => exact ⟨by simp [rowAt], by rintro ⟨j, t, _, h1⟩; cases h1⟩
                      | (i', k') :: t', ht =>
                        simp only [rowAt] at ht ⊢
                        by_cases hii : i' = i
                        · subst hii
                          simp only [List.getElem?_set_self hil, heg] at ht
                          by_cases hin : k ≤ k' ∧ k' < k + ti.size
                          · simp only [hin, and_self, if_true] at ht
                            cases hcy : (cells y)[k' - k]? with
                            | none => simp [hcy] at ht
                            | some c =>
                              simp only [hcy] at ht
                              have := hyp _ c hcy
                              cases c <;> first | (simp at ht; done) | (simp [plainV] at this; done)
                          · simp only [hin, if_false] at ht
                            refine ⟨by simpa [he] using ht, ?_⟩
                            rintro ⟨j, t, hj, h1⟩
                            simp at h1
                            omega
                        · rw [List.getElem?_set_ne (by omega)] at ht
                          refine ⟨ht, ?_⟩
                          rintro ⟨j, t, hj, h1⟩
                          simp at h1
                          exact hii h1.1.1
                    have h1 := live_set (fun t ht => (hnewrow t ht).1) hz hes hl2.2
                    refine ⟨by simp [live, look, valid, hro, hnv2 ▸ hnv', h1], ?_⟩
                    rintro ⟨j, t, hj, rfl⟩
                    have := hl2.2
                    rw [rowAt_set_append hz hes] at this
                    exact (hnewrow _ this).2 ⟨j, t, hj, rfl⟩
                  · exfalso
                    omega
              refine ⟨key.1, fun c n hc hcb => ⟨putOwn_other hc hne (by simp [key.2]), blk c n hcb⟩⟩
            · refine ⟨by simpa [live, look, valid, upd, ho'] using hl, fun c n hc hcb => ?_⟩
              have ho2 : o' ≠ id := by
                rintro rfl
                exact hN (.inl hi.uid)
              exact ⟨putOwn_other hc ho2 (by simp [ho']), blk c n hcb⟩
          have hnewR : RowOk (w.setRow b arr') (putOwn ρ1 id o1 path i k ti.size) (upd rt1 o1 (some { nv := nv', s := r.s, es := es })) (o1, path) s1 (z.set i e') := by
            refine rowOk_upd (rowOk_path (p0 := []) (ab.rok o1 r hro) hz) (by simp) ?_ ?_
            · intro i' x' hx'
              by_cases hii : i' = i
              · subst hii
                rw [List.getElem?_set_self hil] at hx'
                cases hx'
                rw [hel]; exact hes1
              · rw [List.getElem?_set_ne (by omega)] at hx'
                exact hg1 _ _ hx'
            · intro b2 arr2 T2 hb2 hh2
              have := ab.inj b b2 _ hb1 hb2
              subst this
              rw [hbb] at hh2
              cases hh2
              refine ⟨arr', putOwn_other hb1 hne (by simp [hselfu]), hw1, ?_⟩
              have old : ∀ (i' k' : Nat) x' c, z[i']? = some x' → (cells x')[k']? = some c → ¬ (i' = i ∧ k ≤ k' ∧ k' < k + ti.size) → ∃ u, arr'[i' * s1 + k']? = some u ∧ RepV (w.setRow b arr') (putOwn ρ1 id o1 path i k ti.size) (upd rt1 o1 (some { nv := nv', s := r.s, es := es })) (some (o1, path ++ [(i', k')])) c u := by
                intro i' k' x' c hx' hc' hnin
                refine ⟨g i' k', ?_, ?_⟩
                · rw [hget', if_neg]
                  · exact hg2 i' x' k' c hx' hc'
                  · rintro ⟨q1, q2⟩
                    have hk1 := (List.getElem?_eq_some_iff.1 hc').1
                    rw [hg1 i' x' hx'] at hk1
                    by_cases hii : i' = i
                    · subst hii
                      exact hnin ⟨rfl, by omega, by omega⟩
                    · rcases Nat.lt_or_gt_of_ne hii with h1 | h1
                      · have : (i' + 1) * s1 ≤ i * s1 := Nat.mul_le_mul_right _ h1
                        rw [Nat.succ_mul] at this
                        omega
                      · have : (i + 1) * s1 ≤ i' * s1 := Nat.mul_le_mul_right _ h1
                        rw [Nat.succ_mul] at this
                        omega
                · refine RepV.under K (fun c' l hl hpre => ?_) (hg3 i' x' k' c hx' hc') (nh_cell (nhs_get hzn hx') hc')
                  obtain ⟨t, rfl⟩ := hpre
                  refine ⟨putOwn_other hl hne ?_, hw2 _ (hneb _ _ hl (by intro hq; have := congrArg List.length hq; simp at this))⟩
                  rintro ⟨_, j, t', hj, h1⟩
                  simp only [List.append_assoc, List.cons_append, List.nil_append, List.append_cancel_left_eq] at h1
                  injection h1 with h1 _
                  injection h1 with h1 h2
                  exact hnin ⟨h1, by omega, by omega⟩
              intro i' x' k' c hx' hc'
              by_cases hii : i' = i
              · subst hii
                rw [List.getElem?_set_self hil] at hx'
                cases hx'
                rw [heg] at hc'
                split at hc'
                · rename_i hin
                  obtain ⟨q1, q2⟩ := hcu _ c hc'
                  refine ⟨_, by rw [hget', if_pos (by omega), show i' * s1 + k' - (i' * s1 + k) = k' - k by omega]; exact q1, ?_⟩
                  have := q2.mono K (fun l => (o1, path ++ match l.2 with
                      | (_, j) :: t => (i', k + j) :: t
                      | [] => [])) (fun l => l.1 = id ∧ ∃ t, l.2 = (0, k' - k) :: t)
                    (fun l i2 k2 hl => by
                      obtain ⟨_, t, ht⟩ := hl
                      simp [Loc.at, ht])
                    (fun l i2 k2 hl => ⟨hl.1, by obtain ⟨_, t, ht⟩ := hl; exact ⟨t ++ [(i2, k2)], by simp [Loc.at, ht]⟩⟩)
                    (fun c' l hl hcl => by
                      obtain ⟨l1, l2⟩ := l
                      obtain ⟨rfl, t, ht⟩ := hl
                      simp only at ht
                      subst ht
                      exact ⟨putOwn_moved hcl, hw2 _ (hneb' _ _ _ hcl (Ne.symm hne))⟩)
                    (fun l hl => by cases hl; exact ⟨rfl, [], rfl⟩) (nh_noNew (nh_cell yn hc'))
                  simp only [Option.map_some] at this
                  rwa [show k + (k' - k) = k' by omega] at this
                · rename_i hin
                  exact old i' k' e c he hc' (by rintro ⟨_, h2⟩; exact hin h2)
              · rw [List.getElem?_set_ne (by omega)] at hx'
                exact old i' k' x' c hx' hc' (by rintro ⟨h1, _⟩; exact hii h1)
          have J' : Inj (putOwn ρ1 id o1 path i k ti.size) := by
            rintro c c' ⟨o', l⟩ h1 h2
            rcases putOwn_inv h1 with ⟨i0, j, t, q1, q2, q3⟩ | ⟨q1, q2, q3⟩ <;> rcases putOwn_inv h2 with ⟨i0', j', t', r1, r2, r3⟩ | ⟨r1, r2, r3⟩
            · subst q3
              simp only [List.append_cancel_left_eq] at r3
              injection r3 with r3 r4
              injection r3 with r3 r5
              subst r4
              have : j = j' := by omega
              subst this
              obtain ⟨_, _, e1, _⟩ := hlabid _ _ q1
              obtain ⟨_, _, e2, _⟩ := hlabid _ _ r1
              cases e1
              cases e2
              exact ab.inj _ _ _ q1 r1
            · exfalso
              obtain ⟨j2, t2, e1, e2⟩ := hlabid _ _ q1
              cases e1
              exact r3 ⟨q2, j, t, e2, q3⟩
            · exfalso
              obtain ⟨j2, t2, e1, e2⟩ := hlabid _ _ r1
              cases e1
              exact q3 ⟨r2, j', t', e2, r3⟩
            · exact ab.inj _ _ _ q2 r2
          refine ⟨?_, J', ?_, ab.keep.trans K (Nat.le_refl _), ?_, ⟨rfl, rfl, rfl, by simp, blk⟩, ?_, fun c l hc => ab.f0 c l (by
            rcases putOwn_inv hc with ⟨_, _, _, _, q2, _⟩ | ⟨_, q2, _⟩
            · exact absurd q2 ho0
            · exact q2)⟩
          · intro o' r' hr'
            by_cases ho' : o' = o1
            · subst ho'
              simp [upd] at hr'
              subst hr'
              refine rowOk_set (p0 := []) K J' (by simp) (ab.rok o' r hro) (ab.rtn o' r hro) hz hes (fun c l hc _ hl => ?_) (fun c arr2 T2 hc hh => ?_) (by simpa using hnewR)
              · simp only [List.nil_append] at hl
                exact ⟨putOwn_other hc hne (by rintro ⟨_, h2⟩; exact hund l hl h2), hw2 _ (hneb _ _ hc (by rintro rfl; exact hl (List.prefix_refl _)))⟩
              · simp only [List.nil_append] at hc
                have := ab.inj b c _ hb1 hc
                subst this
                rw [hbb] at hh
                cases hh
                exact ⟨putOwn_other hb1 hne (by simp [hselfu]), arr', _, hw1, hsz'⟩
            · simp [upd, ho'] at hr'
              have ho2 : o' ≠ id := by
                rintro rfl
                rw [ab.gone hid] at hr'
                cases hr'
              exact RowOk.under K (fun c l hc _ => ⟨putOwn_other hc ho2 (by simp [ho']), hw2 _ (hneb' _ _ _ hc ho')⟩) (ab.rok o' r' hr') (ab.rtn o' r' hr')
          · intro o' r' hr'
            by_cases ho' : o' = o1
            · simp [upd, ho'] at hr'
              subst hr'
              exact setRow_nh (set_nh hzn hen') (ab.rtn o1 r hro) hes
            · simp [upd, ho'] at hr'
              exact ab.rtn o' r' hr'
          · refine ⟨fun c o' l hc => ?_, by simp [upd, ho0, ab.lab.z], fun c l hc => ?_⟩
            rotate_left
            · rcases putOwn_inv hc with ⟨_, _, _, _, q2, _⟩ | ⟨_, q2, _⟩
              · exact absurd q2 ho0
              · exact ab.lab.f _ _ q2
            rcases putOwn_inv hc with ⟨i0, j, t, q1, q2, q3⟩ | ⟨q1, q2, q3⟩
            · refine ⟨by simpa using (ab.lab _ _ _ q1).1, .inr ?_⟩
              rw [q2]
              exact ⟨{ nv := nv', s := r.s, es := es }, by simp [upd]⟩
            · refine ⟨by simpa using (ab.lab _ _ _ q2).1, ?_⟩
              by_cases ho' : o' = o1
              · exact .inr ⟨{ nv := nv', s := r.s, es := es }, by simp [upd, ho']⟩
              · rcases (ab.lab _ _ _ q2).2 with (h4 | ⟨h4, _⟩) | ⟨r2, h4⟩
                · exact .inl h4
                · exact absurd h4 q1
                · exact .inr ⟨r2, by simp [upd, ho', h4]⟩
          · intro o' r' hr'
            by_cases ho' : o' = o1
            · simp [upd, ho'] at hr'
              subst hr'
              subst ho'
              obtain ⟨r0, h1, h2, _⟩ := ab.nv o' r hro
              refine .inl ⟨r0, h1, ?_⟩
              have h2' : r.nv = r0.nv := h2
              have h3 : r.nv ≤ nv' := by
                rw [← hnv']
                split
                · exact Nat.le_refl _
                · exact Nat.le_succ _
              exact h2' ▸ h3
            · simp [upd, ho'] at hr'
              obtain ⟨r0, h1, h2, _⟩ := ab.nv o' r' hr'
              exact .inl ⟨r0, h1, by omega⟩
        · cases h
      · cases h
    · cases h
  · cases h
end
end Go.Ln
/- Own memory that is lent, or let go: from then on it stays as it is. -/
set_option linter.unusedVariables false
set_option linter.unusedSimpArgs false
set_option linter.unusedSectionVars false
namespace Go.Ln
open Go
variable {w w' : World} {ρ ρ' ρ'' : Own} {rt rt' rt'' : Store} {N : Nat → Nat → Prop}

theorem imms_map : ∀ {vs : List V}, imms vs = vs.map imm
  | [] => rfl
  | v :: vs => by simp [imms, imms_map]
theorem cells_imm {e : V} : cells (imm e) = (cells e).map imm := by
  cases e <;> simp [imm, cells, imms_map]
theorem imms_get {vs : List V} {i : Nat} : (imms vs)[i]? = (vs[i]?).map imm := by rw [imms_map, List.getElem?_map]
theorem imms_len {vs : List V} : (imms vs).length = vs.length := by rw [imms_map, List.length_map]
theorem cell_imm {e : V} {k : Nat} : (cells (imm e))[k]? = ((cells e)[k]?).map imm := by rw [cells_imm, List.getElem?_map]

mutual
theorem imm_nh : ∀ {v : V}, nh v → nh (imm v)
  | .und, _ => by simp [imm, nh]
  | .dead, _ => by simp [imm, nh]
  | .bool _, _ => by simp [imm, nh]
  | .int _ _, _ => by simp [imm, nh]
  | .str _, _ => by simp [imm, nh]
  | .nilp, _ => by simp [imm, nh]
  | .nilfn, _ => by simp [imm, nh]
  | .nilif, _ => by simp [imm, nh]
  | .fn _ cs, h => by simpa [imm] using h
  | .iface _ v, h => by simpa [imm] using h
  | .agg cs, h => by simp only [imm, nh] at h ⊢; exact imms_nh h
  | .tup cs, h => by simpa [imm] using h
  | .iptr e _, h => by simpa [imm] using h
  | .isl _ es, h => by simpa [imm] using h
  | .uptr e, h => by simp only [imm, nh] at h ⊢; exact imm_nh h
  | .usl _ es, h => by simp only [imm, nh] at h ⊢; exact imms_nh h
  | .hp _ _ _ _ _ _, h => by simp [nh] at h
  | .hs _ _ _ _ _ _, h => by simp [nh] at h
theorem imms_nh : ∀ {vs : List V}, nhs vs → nhs (imms vs)
  | [], _ => by simp [imms, nhs]
  | v :: vs, h => by simp only [imms, nhs] at h ⊢; exact ⟨imm_nh h.1, imms_nh h.2⟩
end

def notOwn : V → Prop
  | .usl _ _ => False
  | .uptr _ => False
  | _ => True
theorem RepV.any {L L' : Option Loc} {v : V} {u : Value} (h : RepV w ρ rt L v u) (hv : notOwn v) : RepV w ρ rt L' v u := h.place (by cases v <;> first | trivial | exact hv.elim)
theorem RepV.notOwn {v : V} {u : Value} (h : RepV w ρ rt none v u) : notOwn v := by cases h <;> trivial
theorem RepV.anyN {L' : Option Loc} {v : V} {u : Value} (h : RepV w ρ rt none v u) : RepV w ρ rt L' v u := h.any h.notOwn

theorem RepV.freeze (K : Keep N w ρ rt w' ρ' rt') {o : Nat} {L : Option Loc} {v : V} {u : Value} (h : RepV w ρ rt L v u) : ∀ q, L = some (o, q) → (∀ b l, ρ b = some (o, l) → q <+: l → ρ' b = none ∧ b < w'.heap.size ∧ w'.heap[b]? = w.heap[b]?) → nh v → RepV w' ρ' rt' none (imm v) u := by
  induction h with
  | usl0 l s A => exact fun q _ _ _ => by simpa [imm, imms] using RepV.isl0 (w := w') (ρ := ρ') (rt := rt') none false A 0 (by simp)
  | usl l s es b A c arr T g hρ hb hl hA hcap hs hc h ih =>
    intro q hL hF hn
    cases hL
    by_cases h0 : es = []
    · subst h0
      simpa [imm, imms] using RepV.isl0 (w := w') (ρ := ρ') (rt := rt') none false A c (by simp)
    · have hpos : 0 < es.length := List.length_pos_iff.2 h0
      obtain ⟨f1, f2, f3⟩ := hF b q hρ (List.prefix_refl _)
      rw [hA (by omega)]
      simp only [imm]
      rw [← imms_len (vs := es)]
      refine .isl _ (imms es) b 0 c s g (by rw [imms_len]; exact hl) (by rw [imms_len]; exact hpos) f1 f2 ?_ ?_ ?_
      · intro i e he
        rw [imms_get] at he
        obtain ⟨e0, he0, rfl⟩ := Option.map_eq_some_iff.1 he
        rw [cells_imm, List.length_map]
        exact hs i e0 he0
      · intro i e k x he hx
        rw [imms_get] at he
        obtain ⟨e0, he0, rfl⟩ := Option.map_eq_some_iff.1 he
        rw [cell_imm] at hx
        obtain ⟨x0, hx0, rfl⟩ := Option.map_eq_some_iff.1 hx
        rw [cell_of_heap f3]
        simp only [World.cell?, hb, Nat.zero_add]
        exact hc i e0 k x0 he0 hx0
      · intro i e k x he hx
        rw [imms_get] at he
        obtain ⟨e0, he0, rfl⟩ := Option.map_eq_some_iff.1 he
        rw [cell_imm] at hx
        obtain ⟨x0, hx0, rfl⟩ := Option.map_eq_some_iff.1 hx
        exact ih i e0 k x0 he0 hx0 (q ++ [(i, k)]) rfl (fun b l hb hp => hF b l hb ((List.prefix_append _ _).trans hp)) (nh_cell (nhs_get (by simpa [nh] using hn) he0) hx0)
  | uptr l e b arr T g hρ hb hc h ih =>
    intro q hL hF hn
    cases hL
    obtain ⟨f1, f2, f3⟩ := hF b q hρ (List.prefix_refl _)
    simp only [imm]
    refine .iptr _ (imm e) 0 b 0 g f2 f1 ?_ ?_
    · intro j x hx
      rw [Nat.zero_add, cell_imm] at hx
      obtain ⟨x0, hx0, rfl⟩ := Option.map_eq_some_iff.1 hx
      rw [cell_of_heap f3]
      simp only [World.cell?, hb, Nat.zero_add]
      exact hc j x0 hx0
    · intro j x hx
      rw [Nat.zero_add, cell_imm] at hx
      obtain ⟨x0, hx0, rfl⟩ := Option.map_eq_some_iff.1 hx
      exact ih j x0 hx0 (q ++ [(0, j)]) rfl (fun b l hb hp => hF b l hb ((List.prefix_append _ _).trans hp)) (nh_cell (by simpa [nh] using hn) hx0)
  | und L => exact fun _ _ _ _ => by simpa [imm] using RepV.und none
  | dead L u => exact fun _ _ _ _ => by simpa [imm] using RepV.dead none u
  | bool L b => exact fun _ _ _ _ => by simpa [imm] using RepV.bool none b
  | int L k n => exact fun _ _ _ _ => by simpa [imm] using RepV.int none k n
  | str L s => exact fun _ _ _ _ => by simpa [imm] using RepV.str none s
  | nilp L => exact fun _ _ _ _ => by simpa [imm] using RepV.nilp none
  | nilfn L => exact fun _ _ _ _ => by simpa [imm] using RepV.nilfn none
  | nilif L => exact fun _ _ _ _ => by simpa [imm] using RepV.nilif none
  | fn L f caps g h ih => exact fun _ _ _ hn => by simpa [imm] using (RepV.fn none f caps g h).keep K (nh_noNew hn)
  | iface L t v g h ih => exact fun _ _ _ hn => by simpa [imm] using (RepV.iface none t v g h).keep K (nh_noNew hn)
  | tup L vs p g hp h ih => exact fun _ _ _ hn => by simpa [imm] using (RepV.tup none vs p g hp h).keep K (nh_noNew hn)
  | iptr L e k b off g hb hρ hc h ih => exact fun _ _ _ hn => by simpa [imm] using (RepV.iptr none e k b off g hb hρ hc h).keep K (nh_noNew hn)
  | isl0 L nl A c hn => exact fun _ _ _ _ => by simpa [imm] using RepV.isl0 none nl A c hn
  | isl L es b off c s g hl h0 hρ hb hs hc h ih => exact fun _ _ _ hn => by simpa [imm] using (RepV.isl none es b off c s g hl h0 hρ hb hs hc h).keep K (nh_noNew hn)
  | hp L o nv path s i k u h h1 => exact fun _ _ _ hn => by simp [nh] at hn
  | hs L o nv path s off len u h h1 => exact fun _ _ _ hn => by simp [nh] at hn

/-- A row that is lent. -/
theorem RowOk.freeze (K : Keep N w ρ rt w' ρ' rt') {o : Nat} {q : List (Nat × Nat)} {s : Nat} {es : List V} (h : RowOk w ρ rt (o, q) s es) (hF : ∀ b l, ρ b = some (o, l) → q <+: l → ρ' b = none ∧ b < w'.heap.size ∧ w'.heap[b]? = w.heap[b]?) (hn : nhs es) :
    es = [] ∨ ∃ b, ∃ g : Nat → Nat → Value, ρ b = some (o, q) ∧ ρ' b = none ∧ b < w'.heap.size ∧ (∀ (i : Nat) (e : V), (imms es)[i]? = some e → (cells e).length = s) ∧
      (∀ (i : Nat) (e : V) k x, (imms es)[i]? = some e → (cells e)[k]? = some x → w'.cell? ⟨b, i * s + k, none⟩ = some (g i k)) ∧
      (∀ (i : Nat) (e : V) k x, (imms es)[i]? = some e → (cells e)[k]? = some x → RepV w' ρ' rt' none x (g i k)) := by
  rcases h with h | ⟨b, arr, T, g, h1, h2, h3, h4, h5⟩
  · exact .inl h
  · obtain ⟨f1, f2, f3⟩ := hF b q h1 (List.prefix_refl _)
    refine .inr ⟨b, g, h1, f1, f2, ?_, ?_, ?_⟩
    · intro i e he
      rw [imms_get] at he
      obtain ⟨e0, he0, rfl⟩ := Option.map_eq_some_iff.1 he
      rw [cells_imm, List.length_map]
      exact h3 i e0 he0
    · intro i e k x he hx
      rw [imms_get] at he
      obtain ⟨e0, he0, rfl⟩ := Option.map_eq_some_iff.1 he
      rw [cell_imm] at hx
      obtain ⟨x0, hx0, rfl⟩ := Option.map_eq_some_iff.1 hx
      rw [cell_of_heap f3]
      simp only [World.cell?, h2]
      exact h4 i e0 k x0 he0 hx0
    · intro i e k x he hx
      rw [imms_get] at he
      obtain ⟨e0, he0, rfl⟩ := Option.map_eq_some_iff.1 he
      rw [cell_imm] at hx
      obtain ⟨x0, hx0, rfl⟩ := Option.map_eq_some_iff.1 hx
      exact (h5 i e0 k x0 he0 hx0).freeze K (q ++ [(i, k)]) rfl (fun b l hb hp => hF b l hb ((List.prefix_append _ _).trans hp)) (nh_cell (nhs_get hn he0) hx0)

/-- A part of lent memory. -/
theorem isl_part {b s c len off : Nat} {es : List V} {g : Nat → Nat → Value} {A : Option Addr} (f1 : ρ b = none) (f2 : b < w.heap.size) (h3 : ∀ (i : Nat) (e : V), es[i]? = some e → (cells e).length = s)
    (h4 : ∀ (i : Nat) (e : V) k x, es[i]? = some e → (cells e)[k]? = some x → w.cell? ⟨b, i * s + k, none⟩ = some (g i k))
    (h5 : ∀ (i : Nat) (e : V) k x, es[i]? = some e → (cells e)[k]? = some x → RepV w ρ rt none x (g i k)) (hlen : off + len ≤ es.length) (hlc : len ≤ c) (hA : len ≠ 0 → A = some ⟨b, off * s, none⟩) :
    RepV w ρ rt none (.isl false ((es.drop off).take len)) (.slice A len c) := by
  have hl : ((es.drop off).take len).length = len := by simp; omega
  have hget : ∀ (i : Nat) (e : V), ((es.drop off).take len)[i]? = some e → es[off + i]? = some e := fun i e he => by
    rw [List.getElem?_take] at he
    split at he
    · rwa [List.getElem?_drop] at he
    · cases he
  by_cases h0 : len = 0
  · subst h0
    simpa using RepV.isl0 none false A c (by simp)
  · rw [hA h0]
    have := RepV.isl (w := w) (ρ := ρ) (rt := rt) none ((es.drop off).take len) b (off * s) c s (fun i k => g (off + i) k) (by rw [hl]; exact hlc) (by rw [hl]; omega) f1 f2
      (fun i e he => h3 _ _ (hget i e he))
      (fun i e k x he hx => by
        have := h4 _ _ _ _ (hget i e he) hx
        rwa [Nat.add_mul, Nat.add_assoc] at this)
      (fun i e k x he hx => h5 _ _ _ _ (hget i e he) hx)
    rwa [hl] at this

theorem imms_part {es : List V} {off len : Nat} : imms ((es.drop off).take len) = ((imms es).drop off).take len := by simp [imms_map]

/-- A value that is lent: every block of the store is to stay as it is. -/
theorem share_ok (H : RtOk w ρ rt) (J : Inj ρ) (hr : RtN rt) (K : Keep N w ρ rt w ρ' rt') {v x : V} {u : Value} (h : share rt v = some x) (hv : RepV w ρ rt none v u) (hn : noNew N v)
    (hF : ∀ b o l, o ∈ ids v → ρ b = some (o, l) → ρ' b = none ∧ b < w.heap.size) : RepV w ρ' rt' none x u ∧ nh x := by
  unfold share at h
  split at h
  · rename_i o nv path s off len
    simp only [Option.bind_eq_some_iff] at h
    obtain ⟨⟨s1, es⟩, hl, h⟩ := h
    split at h
    · rename_i hc
      cases h
      simp only at hc
      obtain ⟨rfl, hc⟩ := hc
      have hes := look_nh hr hl
      refine ⟨?_, by simp only [nh]; exact imms_nh (nhs_iff.2 fun x hx => nhs_iff.1 hes x (List.mem_of_mem_drop (List.mem_of_mem_take hx)))⟩
      have hlive : live rt o nv path := by simp [live, hl]
      cases hv with
      | hs _ _ _ _ _ _ _ _ hh h1 =>
        obtain ⟨c, A, rfl, hlc, hcc⟩ := hh hlive
        simp only [imms_part]
        rcases (look_rep H hl).freeze K (fun b l hb _ => ⟨(hF b o l (by simp [ids]) hb).1, (hF b o l (by simp [ids]) hb).2, rfl⟩) hes with rfl | ⟨b, g, f0, f1, f2, f3, f4, f5⟩
        · have : len = 0 := by simp at hc; omega
          subst this
          simpa using RepV.isl0 none false A c (by simp)
        · refine isl_part (g := g) f1 f2 f3 f4 f5 (by rw [imms_len]; exact hc) hlc fun h0 => ?_
          obtain ⟨b', n, hb, _, hA, _⟩ := hcc (by omega)
          have := J _ _ _ f0 hb
          subst this
          exact hA
    · cases h
  · rename_i o nv path s i k
    simp only [Option.bind_eq_some_iff] at h
    obtain ⟨⟨s1, es⟩, hl, h⟩ := h
    have hs1 : s = s1 := by
      split at h
      · assumption
      · cases h
    subst hs1
    simp only [if_true, Option.map_eq_some_iff] at h
    obtain ⟨e, he, rfl⟩ := h
    have hes := look_nh hr hl
    refine ⟨?_, by simp only [nh]; exact imm_nh (nhs_get hes he)⟩
    have hlive : live rt o nv path := by simp [live, hl]
    cases hv with
    | hp _ _ _ _ _ _ _ _ hh h1 =>
      obtain ⟨b', n, hb, _, rfl⟩ := hh hlive
      rcases (look_rep H hl).freeze K (fun b l hb _ => ⟨(hF b o l (by simp [ids]) hb).1, (hF b o l (by simp [ids]) hb).2, rfl⟩) hes with rfl | ⟨b, g, f0, f1, f2, f3, f4, f5⟩
      · simp at he
      · have := J _ _ _ f0 hb
        subst this
        have hei : (imms es)[i]? = some (imm e) := by rw [imms_get, he]; rfl
        exact .iptr _ (imm e) k b (i * s + k) (fun j => g i (k + j)) f2 f1 (fun j x hx => by rw [Nat.add_assoc]; exact f4 i _ (k + j) x hei hx) fun j x hx => f5 i _ (k + j) x hei hx
  · cases h
    have hv' := hv.keep K hn
    refine ⟨?_, by simpa [nh, noNew] using hn⟩
    cases hv' with
    | isl0 _ _ A c _ => exact .isl0 _ _ A c (by simp)
    | isl _ _ b off c s g hl h0 hρ hb hs hc hh => exact .isl _ _ b off c s g hl h0 hρ hb hs hc hh
  · split at h
    · rename_i hp
      cases h
      exact ⟨hv.keep K hn, plain_nh hp hn⟩
    · cases h
end Go.Ln
