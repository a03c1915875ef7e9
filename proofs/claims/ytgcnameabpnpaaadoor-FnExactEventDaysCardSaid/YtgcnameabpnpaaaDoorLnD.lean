/-
  A step by step reading of the printed code by values, proved sound once (part 4): no statement of the seat stands here.
-/
import Derived.Test.YtgcnameabpnpaaaDoorLnC
/- One operation, whichever it is. -/
set_option linter.unusedVariables false
set_option linter.unusedSimpArgs false
set_option linter.unusedSectionVars false
namespace Go.Ln
open Go
variable {w w' : World} {ρ ρ' ρ'' : Own} {rt rt' rt'' : Store} {N : Nat → Nat → Prop}

/-- What an operation does. -/
def Acts (P : Program) (o : Oper) (a : Act) (w : World) (K : Value → World → Prop) : Prop :=
  (∃ u w', (execOp a.eval o).run P w = .ok (.value u) w' ∧ K u w') ∨ (∃ w', (execOp a.eval o).run P w = .ok .skip w' ∧ K undef w') ∨
  (∃ f us, (execOp a.eval o).run P w = .ok (.enter f us) w ∧ Calls P f us w fun e w' => ∃ u, e = .returned u ∧ K u w')

theorem Acts.wp {P : Program} {o : Oper} {a : Act} {K : Value → World → Prop} {next : Act → World → Prop} {Q : Exit → Act → World → Prop} (h : Acts P o a w K) (hn : ∀ u w', K u w' → next (a.put o.dst u) w') : o.wp P a w next Q := by
  unfold Oper.wp
  rcases h with ⟨u, w', h1, h2⟩ | ⟨w', h1, h2⟩ | ⟨f, us, h1, h2⟩
  · rw [h1]; exact hn u w' h2
  · rw [h1]; exact hn undef w' h2
  · rw [h1]
    exact h2.mono fun e w' ⟨u, he, hk⟩ => by subst he; exact hn u w' hk

theorem arr_one {x : Array Operand} {st : St} {d : V} (h : evs st x.toList = some [d]) : ∃ p, x = #[p] ∧ ev st p = some d := by
  obtain ⟨l⟩ := x
  simp only at h
  match l, h with
  | [p], h =>
    simp only [evs, Option.bind_eq_some_iff, Option.map_eq_some_iff] at h
    obtain ⟨v, hv, _, h1, h2⟩ := h
    cases h1
    cases h2
    exact ⟨p, rfl, hv⟩
  | [], h => simp [evs] at h
  | _ :: _ :: _, h =>
    simp only [evs, Option.bind_eq_some_iff, Option.map_eq_some_iff] at h
    obtain ⟨v, hv, _, ⟨_, _, _, _, h1⟩, h2⟩ := h
    subst h1
    cases h2
theorem arr_two {x : Array Operand} {st : St} {d e : V} (h : evs st x.toList = some [d, e]) : ∃ p q, x = #[p, q] ∧ ev st p = some d ∧ ev st q = some e := by
  obtain ⟨l⟩ := x
  simp only at h
  match l, h with
  | [p, q], h =>
    simp only [evs, Option.bind_eq_some_iff, Option.map_eq_some_iff] at h
    obtain ⟨v, hv, _, ⟨v2, hv2, _, h3, h1⟩, h2⟩ := h
    cases h3
    subst h1
    cases h2
    exact ⟨p, q, rfl, hv, hv2⟩
  | [], h => simp [evs] at h
  | [_], h => simp [evs, Option.bind_eq_some_iff] at h
  | _ :: _ :: _ :: _, h =>
    simp only [evs, Option.bind_eq_some_iff, Option.map_eq_some_iff] at h
    obtain ⟨v, hv, _, ⟨v2, hv2, _, ⟨_, _, _, _, h3⟩, h1⟩, h2⟩ := h
    subst h3
    subst h1
    cases h2

section
variable {P : Program} {E : Env} {G : Ground} (hG : ∀ f e, E.fn f = some e → Good P G f e) (A : Agree P E) {st : St} {a : Act} {o : Oper} (H : RtOk w ρ st.rt) (J : Inj ρ) (T : TmOk w ρ st.rt st.tm a.tmps) (hr : RtN st.rt) (hL : Lab w ρ st.rt noU) {Un : Nat → Prop} {id : Nat} (hm : TmN (NewOf Un st.rt) st.tm) (hi : Fresh Un st.rt id) (hgr : G.ok w ρ)
include hG A H J T hr hL hm hi hgr

theorem notNew {o : Nat} {r : Root} (h : st.rt o = some r) : ¬ NewOf Un st.rt o r.nv := by
  rintro (h1 | ⟨r', h1, h2⟩)
  · rw [hi.f o h1] at h; cases h
  · rw [h] at h1; cases h1; omega

/-- An operation, whichever it is. -/
theorem n_op {v : V} {rt' : Store} (h : opV E id st o.op = some (v, rt')) : Acts P o a w (fun u w' => Out Un w ρ st.rt id v rt' u w') := by
  by_cases hp : pureOp o.op = true
  · obtain ⟨rfl, ⟨u, h1, h2⟩, h3⟩ := opPure A H J T hm hr (fun o r h => notNew hG A H J T hr hL hm hi hgr h) hp h
    refine .inl ⟨u, w, h1, ρ, ⟨H, J, hr, Keep.refl, hL, Wk.refl, fun o r h => .inl ⟨r, h, Nat.le_refl _⟩, fun _ _ h => h⟩, h2, ?_⟩
    refine noNew_mono (fun o nv h => ?_) h3
    rcases h with h | h
    · exact .inl h.1
    · exact .inr h
  · have mk : (∃ u w', (execOp a.eval o).run P w = .ok (.value u) w' ∧ Out Un w ρ st.rt id v rt' u w') → Acts P o a w (fun u w' => Out Un w ρ st.rt id v rt' u w') := fun ⟨u, w', h1, h2⟩ => .inl ⟨u, w', h1, h2⟩
    cases hop : o.op with
    | alloc t => exact mk (n_alloc A H J T hr hL hm hi hop h)
    | box t x => exact mk (n_box A H J T hr hL hm hi hop h)
    | buildSlice t n ps => exact mk (n_buildSlice A H J T hr hL hm hi hop h)
    | makeSlice t x y => exact mk (n_makeSlice A H J T hr hL hm hi hop h)
    | store t p x =>
      rw [show o.op = .store t p x from hop] at h
      have h' : opV E id st o.op = some (v, rt') := by rw [hop]; exact h
      obtain ⟨w', h1, h2⟩ := n_store A H J T hr hL hm hi hop h'
      exact .inr (.inl ⟨w', h1, h2⟩)
    | call c =>
      obtain ⟨cal, args, ts⟩ := c
      rw [hop] at h
      simp only [opV, callOp, Option.bind_eq_some_iff] at h
      obtain ⟨vs, hvs, h⟩ := h
      cases cal with
      | builtin b =>
        cases b <;> simp only [builtinV] at h <;> first | (cases h; done) | skip
        all_goals first
          | (rw [hop] at hp; simp [pureOp] at hp; done)
          | skip
        all_goals first
          | (match vs, hvs, h with
             | [d, x], hvs, h =>
               simp only [builtinV, Option.bind_eq_some_iff] at h
               obtain ⟨t, ht, t1, ht1, h⟩ := h
               split at h
               · rename_i hs1
                 obtain ⟨p, q, rfl, h1, h2⟩ := arr_two hvs
                 exact mk (n_append A H J T hr hL hm hi hop ht ht1 hs1 h1 h2 h)
               · cases h
             | [], _, h => simp [builtinV] at h
             | [_], _, h => simp [builtinV] at h
             | _ :: _ :: _ :: _, _, h => simp [builtinV] at h)
          | (match vs, hvs, h with
             | [x], hvs, h =>
               simp only [builtinV, Option.bind_eq_some_iff, Option.map_eq_some_iff, Prod.mk.injEq] at h
               obtain ⟨t, ht, r1, hr1, rfl, rfl⟩ := h
               obtain ⟨p, rfl, h1⟩ := arr_one hvs
               exact mk (n_clear A H J T hr hL hm hi hop ht h1 hr1)
             | [], _, h => simp [builtinV] at h
             | _ :: _ :: _, _, h => simp [builtinV] at h)
      | value f =>
        simp only [Option.bind_eq_some_iff] at h
        obtain ⟨fv, hf, h⟩ := h
        split at h
        · rename_i fid caps
          obtain ⟨hl, hrep⟩ := evs_rep T hvs
          have hfs := Slot.one rfl (ev_rep T hf)
          have hfn := ev_nn hm hf
          have hcaps : ∃ g : Nat → Value, a.eval f = .func (.func fid) #[] (arrOf caps.length g) ∧ ∀ (i : Nat) v, caps[i]? = some v → RepV w ρ st.rt none v (g i) := by
            generalize a.eval f = uf at hfs
            cases hfs with
            | fn _ _ _ g hg => exact ⟨g, rfl, hg⟩
          obtain ⟨g, hef, hg⟩ := hcaps
          have hus : ((args.toList.map a.eval) ++ (List.range caps.length).map g).toArray = #[] ++ args.map a.eval ++ arrOf caps.length g := by
            apply Array.ext'
            simp [arrOf]
          have hl' : vs.length = args.size := by simpa using hl
          have hn := n_call (us := (args.toList.map a.eval) ++ (List.range caps.length).map g) hG H J hr hL hi hgr (by simp [hl]) (fun i v u hv hu => by
            by_cases hlt : i < vs.length
            · rw [List.getElem?_append_left hlt] at hv
              rw [List.getElem?_append_left (by simp; omega), List.getElem?_map] at hu
              obtain ⟨x, hx, rfl⟩ := Option.map_eq_some_iff.1 hu
              exact ⟨hrep i v x hv hx, noNews_get (evs_nn hm hvs) hv⟩
            · rw [List.getElem?_append_right (by omega)] at hv
              rw [List.getElem?_append_right (by simp; omega), List.getElem?_map] at hu
              obtain ⟨j, hj, rfl⟩ := Option.map_eq_some_iff.1 hu
              have hj' : j = i - vs.length := by
                have h1 := (List.getElem?_eq_some_iff.1 hj).1
                simp at h1
                rw [List.getElem?_range (by simpa using h1)] at hj
                simp [hl] at hj ⊢
                omega
              subst hj'
              have h1 := hg _ v hv
              exact ⟨Slot.mk1 (by cases v <;> first | rfl | (cases h1)) h1, noNews_get (by simpa [noNew] using hfn) hv⟩) h
          have hrun : (execOp a.eval o).run P w = (callFunc fid ((args.toList.map a.eval) ++ (List.range caps.length).map g).toArray).run P w := by
            rw [hus]
            simp [execOp, hop, resolve, Deferred.ofValue, hef, invoke]
          rcases hn with ⟨u, w', h1, h2⟩ | ⟨h1, h2⟩
          · exact .inl ⟨u, w', by rw [hrun]; exact h1, h2⟩
          · exact .inr (.inr ⟨fid, _, by rw [hrun]; exact h1, h2⟩)
        · cases h
      | invoke x m => simp at h
    | _ => rw [hop] at hp h; first | (simp [pureOp] at hp; done) | (simp [opV] at h; done)
end
end Go.Ln
/- A step of a region. -/
set_option linter.unusedVariables false
set_option linter.unusedSimpArgs false
set_option linter.unusedSectionVars false
namespace Go.Ln
open Go

/-- The state of a call's run, as the interpreter has it. -/
structure RelU (Un : Nat → Prop) (G : Ground) (m : Nat) (w0 : World) (ρ0 : Own) (w : World) (ρ : Own) (st : St) (a : Act) : Prop where
  tm : TmOk w ρ st.rt st.tm a.tmps
  rok : RtOk w ρ st.rt
  inj : Inj ρ
  rtn : RtN st.rt
  lab : Lab w ρ st.rt noU
  fresh : ∀ o, Un o → st.rt o = none
  up : ∀ o, Un o → 0 < o
  tmn : TmN (NewOf Un st.rt) st.tm
  wk : Wk w0 w
  fr : ∀ b, ρ0 b = none → b < w0.heap.size → ρ b = none ∧ w.heap[b]? = w0.heap[b]?
  k0 : ∀ b l, ρ0 b = some (0, l) → ρ b = some (0, l) ∧ w.heap[b]? = w0.heap[b]?
  f0 : ∀ b l, ρ b = some (0, l) → ρ0 b = some (0, l)
  df : a.defers = []
  gr : G.ok w ρ
  am : ∀ i b n, 0 < i → ρ0 b = some (i, []) → Blk w0 b n → (st.rt i).isSome = true → ρ b = some (i, []) ∧ Blk w b n
  le : ∀ b i l, ρ0 b = some (i, l) → i ≤ m
  nl : ∀ i, i ≤ m → ¬ Un i

/-- Behind a number all places are new. -/
def past (nx : Nat) : Nat → Prop := fun o => nx ≤ o
abbrev Rel (G : Ground) (m : Nat) (w0 : World) (ρ0 : Own) (w : World) (ρ : Own) (st : St) (a : Act) : Prop := RelU (past st.nx) G m w0 ρ0 w ρ st a

variable {G : Ground} {m : Nat} {w0 w : World} {ρ0 ρ : Own} {st st' : St} {a : Act}

theorem yield_eq {ops : Array Oper} (T : TmOk w ρ st.rt st.tm a.tmps) {j : Nat} {b : Option Bool} (h : yieldV ops st j = some b) : yielded ops a.tmps j = b := by
  unfold yieldV at h
  unfold yielded
  cases hd : (ops[j]?).bind (·.dst) with
  | none => simp [hd] at h
  | some d =>
    simp only [hd, Option.bind_some] at h ⊢
    cases ht : st.tm[d]? with
    | none => simp [ht] at h
    | some v =>
      have hl := (List.getElem?_eq_some_iff.1 ht).1
      obtain ⟨u, hu⟩ : ∃ u, a.tmps[d]? = some u := ⟨_, Array.getElem?_eq_getElem (by rw [← T.1]; exact hl)⟩
      have hs := T.2 d v u ht hu
      rw [hu]
      simp only [ht] at h
      split at h
      · rename_i x hx
        cases h
        cases hx
        rw [slot_bool hs]
      · rename_i hx
        cases h
        cases hx
        have := Slot.one rfl hs
        cases this
        rfl
      · cases h

theorem want_eq {ops : Array Oper} (T : TmOk w ρ st.rt st.tm a.tmps) {o : Oper} {b : Bool} (h : wantV ops st o = some b) : Region.wanted o (yielded ops a.tmps) = b := by
  unfold wantV at h
  unfold Region.wanted
  split at h
  · cases h; simp_all
  · rename_i j want hg
    simp only [Option.map_eq_some_iff] at h
    obtain ⟨x, hx, rfl⟩ := h
    rw [hg]
    simp only
    rw [yield_eq T hx]

theorem newOf_less {Un : Nat → Prop} {rt rt' : Store} {id : Nat} (hi : ∀ o, id ≤ o → o < id + room → Un o) (h : ∀ o r', rt' o = some r' → (∃ r, rt o = some r ∧ r.nv ≤ r'.nv) ∨ (id ≤ o ∧ o < id + room)) : ∀ o nv, NewOf (less Un id) rt' o nv → NewOf Un rt o nv := by
  rintro o nv (h1 | ⟨r, h1, h2⟩)
  · exact .inl h1.1
  · rcases h o r h1 with ⟨r0, h3, h4⟩ | ⟨h3, h4⟩
    · exact .inr ⟨r0, h3, by omega⟩
    · exact .inl (hi o h3 h4)

theorem putT_get {tm : List V} {d : Option Nat} {v x : V} {i : Nat} (h : (putT tm d v)[i]? = some x) : (d = some i ∧ x = v ∧ i < tm.length) ∨ (d ≠ some i ∧ tm[i]? = some x) := by
  cases d with
  | none => exact .inr ⟨by simp, h⟩
  | some d =>
    simp only [putT] at h
    by_cases hd : d = i
    · subst hd
      have hl := (List.getElem?_eq_some_iff.1 h).1
      rw [List.length_set] at hl
      rw [List.getElem?_set_self hl] at h
      cases h
      exact .inl ⟨rfl, rfl, hl⟩
    · rw [List.getElem?_set_ne hd] at h
      exact .inr ⟨by simpa using hd, h⟩

theorem put_get {a : Act} {d : Option Nat} {v u : Value} {i : Nat} (h : (a.put d v).tmps[i]? = some u) : (d = some i ∧ u = v) ∨ (d ≠ some i ∧ a.tmps[i]? = some u) := by
  cases d with
  | none => exact .inr ⟨by simp, h⟩
  | some d =>
    simp only [Act.put] at h
    by_cases hd : d = i
    · subst hd
      have hl := (Array.getElem?_eq_some_iff.1 h).1
      simp at hl
      simp [hl] at h
      exact .inl ⟨rfl, h.symm⟩
    · rw [Array.getElem?_setIfInBounds_ne hd] at h
      exact .inr ⟨by simpa using hd, h⟩
theorem put_size {a : Act} {d : Option Nat} {v : Value} : (a.put d v).tmps.size = a.tmps.size := by cases d <;> simp [Act.put]
theorem putT_len {tm : List V} {d : Option Nat} {v : V} : (putT tm d v).length = tm.length := by cases d <;> simp [putT]
theorem put_defers {a : Act} {d : Option Nat} {v : Value} : (a.put d v).defers = a.defers := by cases d <;> simp [Act.put]

/-- Behind an operation. -/
theorem RelU.out {Un : Nat → Prop} (R : RelU Un G m w0 ρ0 w ρ st a) {id nx : Nat} (hi : ∀ o, id ≤ o → o < id + room → Un o) {v : V} {rt' : Store} {u : Value} {w' : World} (h : Out Un w ρ st.rt id v rt' u w') {d : Option Nat} : ∃ ρ', RelU (less Un id) G m w0 ρ0 w' ρ' { tm := putT st.tm d v, rt := rt', nx := nx } (a.put d u) := by
  obtain ⟨ρ', e, hv, hn⟩ := h
  have mono := newOf_less hi e.nv
  refine ⟨ρ', ⟨?_, e.rok, e.inj, e.rtn, e.lab, ?_, fun o h => R.up o h.1, ?_, R.wk.trans e.wk, ?_, ?_, ?_, ?_, Ground.keep R.gr e.keep.k1 e.wk, ?_, R.le, fun i h1 h2 => R.nl i h1 h2.1⟩⟩
  · refine ⟨by rw [putT_len, put_size]; exact R.tm.1, fun i x y hx hy => ?_⟩
    rcases putT_get hx with ⟨h1, rfl, _⟩ | ⟨h1, h2⟩ <;> rcases put_get hy with ⟨h3, rfl⟩ | ⟨h3, h4⟩
    · exact hv
    · exact absurd h1 h3
    · exact absurd h3 h1
    · exact (R.tm.2 i x y h2 h4).keep e.keep (R.tmn i x h2)
  · intro o ho
    cases hr : rt' o with
    | none => exact hr
    | some r' =>
      rcases e.nv o r' hr with ⟨r, h1, _⟩ | h1
      · rw [R.fresh o ho.1] at h1; cases h1
      · exact absurd h1 ho.2
  · intro i x hx
    rcases putT_get hx with ⟨h1, rfl, _⟩ | ⟨h1, h2⟩
    · exact hn
    · exact noNew_mono mono (R.tmn i x h2)
  · intro b hb hl
    have h1 := R.fr b hb hl
    have h2 := e.keep.k1 b h1.1 (Nat.lt_of_lt_of_le hl R.wk.size)
    exact ⟨h2.1, h2.2.trans h1.2⟩
  · intro b l hb
    have h1 := R.k0 b l hb
    have h2 := e.keep.k0 b l h1.1
    exact ⟨h2.1, h2.2.trans h1.2⟩
  · exact fun b l hb => R.f0 b l (e.f0 b l hb)
  · rw [put_defers]; exact R.df
  · intro i b n hi0 hb hn hs
    simp only at hs
    have hlt : ¬ Un i := R.nl i (R.le b i [] hb)
    obtain ⟨r', hr'⟩ := Option.isSome_iff_exists.1 hs
    obtain ⟨r, hr, hnv⟩ : ∃ r, st.rt i = some r ∧ r.nv ≤ r'.nv := by
      rcases e.nv i r' hr' with h | ⟨h1, h2⟩
      · exact h
      · exact absurd (hi i h1 h2) hlt
    have hl : live rt' i r.nv [] := by simp [live, look, valid, hr', rowAt]
    have := (e.keep.k2 i r.nv [] (by
      rintro (h | ⟨r2, h, h2⟩)
      · exact hlt h
      · rw [hr] at h; cases h; omega) hl).2
    have h0 := R.am i b n hi0 hb hn (by rw [hr]; rfl)
    exact this b n h0.1 h0.2

theorem RelU.mono {Un Un' : Nat → Prop} (R : RelU Un G m w0 ρ0 w ρ st a) (h : ∀ o, Un' o → Un o) {nx : Nat} : RelU Un' G m w0 ρ0 w ρ { st with nx := nx } a :=
  { R with
    fresh := fun o ho => R.fresh o (h o ho)
    up := fun o ho => R.up o (h o ho)
    tmn := fun i v hv => noNew_mono (fun o nv h1 => by
      rcases h1 with h1 | h1
      · exact .inl (h o h1)
      · exact .inr h1) (R.tmn i v hv)
    nl := fun i h1 h2 => R.nl i h1 (h i h2) }

theorem RelU.skip {Un : Nat → Prop} (R : RelU Un G m w0 ρ0 w ρ st a) {d : Option Nat} : RelU Un G m w0 ρ0 w ρ { st with tm := putT st.tm d .und } (a.put d undef) :=
  { R with
    tm := ⟨by rw [putT_len, put_size]; exact R.tm.1, fun i x y hx hy => by
      rcases putT_get hx with ⟨h1, rfl, _⟩ | ⟨h1, h2⟩ <;> rcases put_get hy with ⟨h3, rfl⟩ | ⟨h3, h4⟩
      · exact Slot.mk1 rfl (.und _)
      · exact absurd h1 h3
      · exact absurd h3 h1
      · exact R.tm.2 i x y h2 h4⟩
    tmn := fun i x hx => by
      rcases putT_get hx with ⟨h1, rfl, _⟩ | ⟨h1, h2⟩
      · simp [noNew]
      · exact R.tmn i x h2
    df := by rw [put_defers]; exact R.df }

/-- One step of a region, its new places at 'id'. -/
theorem RelU.step {Un : Nat → Prop} {P : Program} {E : Env} (hG : ∀ f e, E.fn f = some e → Good P G f e) (A : Agree P E) (R : RelU Un G m w0 ρ0 w ρ st a) {id nx : Nat} (hp : 0 < id) (hi : ∀ o, id ≤ o → o < id + room → Un o) {ops : Array Oper} {i : Nat} {rest : List Nat} {Q : Exit → Act → World → Prop} (h : stepV E ops id st i = some st')
    (hn : ∀ w' ρ' a', RelU (less Un id) G m w0 ρ0 w' ρ' { st' with nx := nx } a' → wpOps P ops Q rest a' w') : wpOps P ops Q (i :: rest) a w := by
  unfold stepV at h
  simp only [wpOps]
  cases ho : ops[i]? with
  | none =>
    simp only [ho] at h ⊢
    cases h
    exact hn w ρ a (R.mono fun o h => h.1)
  | some o =>
    simp only [ho, Option.bind_eq_some_iff] at h ⊢
    obtain ⟨b, hb, h⟩ := h
    rw [want_eq R.tm hb]
    cases b with
    | true =>
      simp only [if_true, Option.map_eq_some_iff] at h
      obtain ⟨⟨v, rt'⟩, hv, h⟩ := h
      cases h
      simp only [if_true]
      refine .inl ((n_op hG A R.rok R.inj R.tm R.rtn R.lab R.tmn ⟨R.fresh, hi, hp⟩ R.gr hv).wp fun u w' hout => ?_)
      obtain ⟨ρ', R'⟩ := R.out hi hout (d := o.dst) (nx := nx)
      exact hn w' ρ' _ R'
    | false =>
      simp only [Bool.false_eq_true, if_false] at h ⊢
      cases h
      exact hn w ρ _ ((R.skip (d := o.dst)).mono fun o h => h.1)

theorem Rel.step {P : Program} {E : Env} (hG : ∀ f e, E.fn f = some e → Good P G f e) (A : Agree P E) (R : Rel G m w0 ρ0 w ρ st a) {ops : Array Oper} {i : Nat} {rest : List Nat} {Q : Exit → Act → World → Prop} (h : stepV E ops st.nx st i = some st')
    (hn : ∀ w' ρ' a', Rel G m w0 ρ0 w' ρ' { st' with nx := st.nx + room } a' → wpOps P ops Q rest a' w') : wpOps P ops Q (i :: rest) a w :=
  RelU.step hG A R (nx := st.nx + room) (R.up st.nx (Nat.le_refl _)) (fun o h _ => h) h fun w' ρ' a' R' => hn w' ρ' a' (by
    have := R'.mono (Un' := past (st.nx + room)) (nx := st.nx + room) fun o ho => ⟨by unfold past at *; omega, by unfold past at ho; omega⟩
    exact this)
end Go.Ln
/- A test for the nil slice whose answer is not known: both answers are followed. And a row that is let go. -/
set_option linter.unusedVariables false
set_option linter.unusedSimpArgs false
set_option linter.unusedSectionVars false
namespace Go.Ln
open Go
variable {G : Ground} {m : Nat} {w0 w : World} {ρ0 ρ : Own} {st st' : St} {a : Act}

theorem Rel.nilq {P : Program} {E : Env} (A : Agree P E) (R : Rel G m w0 ρ0 w ρ st a) {ops : Array Oper} {i : Nat} {rest : List Nat} {Q : Exit → Act → World → Prop} {o : Oper} {op : BinOp} {t t' e : TypeId} {x y : Operand} {nl : Bool} (ho : ops[i]? = some o) (hg : wantV ops st o = some true) (hop : o.op = .binOp op t x y t') (he : op = .eql ∨ op = .neq)
    (hx : ev st x = some (.isl nl [])) (hy : ev st y = some (.isl true [])) (hd : E.desc t = some (.slice e))
    (hn : ∀ b w' ρ' a', Rel G m w0 ρ0 w' ρ' { st with tm := putT st.tm o.dst (.bool b), nx := st.nx + room } a' → wpOps P ops Q rest a' w') : wpOps P ops Q (i :: rest) a w := by
  simp only [wpOps, ho]
  rw [want_eq R.tm hg]
  simp only [if_true]
  have hu := A.desc hd
  obtain ⟨A1, l, c, h1, _⟩ := isl_shape (Slot.one rfl (ev_rep R.tm hx))
  obtain ⟨A2, l2, c2, h2, h3⟩ := isl_shape (Slot.one rfl (ev_rep R.tm hy))
  have h4 : A2 = none := by have := h3 (.inl rfl); cases A2 <;> simp at this ⊢
  have hrun : (Op.equal t (.slice A1 l c) (.slice A2 l2 c2)).run P w = .ok A1.isNone w := run_equal' fun n => slice_nil_right hu h4 rfl
  have hgd : (eqGuard op t x y (.slice A1 l c) (.slice A2 l2 c2)).run P w = .ok () w := by unfold eqGuard; split <;> simp
  have act : ∃ b, (execOp a.eval o).run P w = .ok (.value (.bool b)) w := by
    rcases he with rfl | rfl
    · exact ⟨A1.isNone, by simp [execOp, hop, h1, h2, hgd, binOp, hrun]⟩
    · exact ⟨!A1.isNone, by simp [execOp, hop, h1, h2, hgd, binOp, hrun]⟩
  obtain ⟨b, hb⟩ := act
  have hout : Out (past st.nx) w ρ st.rt st.nx (.bool b) st.rt (.bool b) w :=
    ⟨ρ, ⟨R.rok, R.inj, R.rtn, Keep.refl, R.lab, Wk.refl, fun o r h => .inl ⟨r, h, Nat.le_refl _⟩, fun _ _ h => h⟩, mk_bool _, by simp [noNew]⟩
  refine .inl (Acts.wp (K := fun u w' => u = .bool b ∧ w' = w) (.inl ⟨.bool b, w, hb, rfl, rfl⟩) fun u w' hh => ?_)
  obtain ⟨rfl, rfl⟩ := hh
  obtain ⟨ρ', R'⟩ := R.out (fun o h _ => h) hout (d := o.dst) (nx := st.nx + room)
  have := R'.mono (Un' := past (st.nx + room)) (nx := st.nx + room) fun o ho => ⟨by unfold past at *; omega, by unfold past at ho; omega⟩
  exact hn b _ ρ' _ this

/-- Rows that are let go. -/
def subO (ρ : Own) (rt2 : Store) : Own := fun b => match ρ b with
  | some (o, l) => if o = 0 ∨ (rt2 o).isSome = true then some (o, l) else none
  | none => none
theorem subO_iff {rt2 : Store} {b : Nat} {L : Loc} : subO ρ rt2 b = some L ↔ ρ b = some L ∧ (L.1 = 0 ∨ (rt2 L.1).isSome = true) := by
  unfold subO
  cases h : ρ b with
  | none => simp
  | some x =>
    obtain ⟨o, l⟩ := x
    simp only
    by_cases hc : o = 0 ∨ (rt2 o).isSome = true
    · rw [if_pos hc]
      simp only [Option.some.injEq]
      constructor
      · rintro rfl; exact ⟨rfl, hc⟩
      · exact fun h => h.1
    · rw [if_neg hc]
      simp only [reduceCtorEq, Option.some.injEq, false_iff, not_and]
      rintro rfl
      exact hc
/-- Rows may be let go, and slots. -/
theorem Rel.sub {tm2 : List V} {rt2 : Store} (ht : tm2.length = st.tm.length) (ht2 : ∀ (i : Nat) v, tm2[i]? = some v → st.tm[i]? = some v ∨ v = .dead) (hs : ∀ o r, rt2 o = some r → st.rt o = some r) (R : Rel G m w0 ρ0 w ρ st a) : ∃ ρ', Rel G m w0 ρ0 w ρ' { st with tm := tm2, rt := rt2 } a := by
  have hz : rt2 0 = none := by
    cases h : rt2 0 with
    | none => rfl
    | some r => have := hs 0 r h; rw [R.lab.z] at this; cases this
  have K : Keep (fun _ _ => False) w ρ st.rt w (subO ρ rt2) rt2 := by
    refine ⟨fun b hb _ => ⟨by simp [subO, hb], rfl⟩, fun o nv p _ hl => ?_, fun b l hb => ⟨subO_iff.2 ⟨hb, .inl rfl⟩, rfl⟩⟩
    unfold live look at hl
    cases hv : valid rt2 o nv p with
    | none => simp [hv] at hl
    | some r =>
      obtain ⟨h1, h2⟩ := valid_some hv
      have h3 := hs o r h1
      simp only [hv, Option.bind_some] at hl
      have : valid st.rt o nv p = some r := by
        unfold valid at hv ⊢
        rw [h3]
        rw [h1] at hv
        exact hv
      exact ⟨by simpa [live, look, this] using hl, fun b n hb hn => ⟨subO_iff.2 ⟨hb, .inr (by rw [h1]; rfl)⟩, hn⟩⟩
  have hNew : ∀ o nv, NewOf (past st.nx) rt2 o nv → NewOf (past st.nx) st.rt o nv := by
    rintro o nv (h | ⟨r, h1, h2⟩)
    · exact .inl h
    · exact .inr ⟨r, hs o r h1, h2⟩
  have kp : ∀ {v : V}, noNew (NewOf (past st.nx) st.rt) v → noNew (fun _ _ => False) v := fun h => noNew_mono (fun _ _ h => h.elim) h
  refine ⟨subO ρ rt2, ?_⟩
  exact
    { tm := ⟨by rw [ht]; exact R.tm.1, fun i v u hv hu => by
        rcases ht2 i v hv with h | rfl
        · exact (R.tm.2 i v u h hu).keep K (kp (R.tmn i v h))
        · exact Slot.mk1 rfl (.dead _ _)⟩
      rok := fun o r h => RowOk.under K (fun b l hb _ => ⟨subO_iff.2 ⟨hb, .inr (by have h' : rt2 o = some r := h; simp [h'])⟩, rfl⟩) (R.rok o r (hs o r h)) (R.rtn o r (hs o r h))
      inj := fun b b' L h h' => R.inj b b' L (subO_iff.1 h).1 (subO_iff.1 h').1
      rtn := fun o r h => R.rtn o r (hs o r h)
      lab := ⟨fun b o l h => by
        obtain ⟨h1, h2⟩ := subO_iff.1 h
        refine ⟨(R.lab b o l h1).1, ?_⟩
        rcases h2 with h2 | h2
        · exact .inl h2
        · exact .inr (Option.isSome_iff_exists.1 h2), hz, fun b l h => R.lab.f b l (subO_iff.1 h).1⟩
      fresh := fun o h => by
        cases hr : rt2 o with
        | none => exact hr
        | some r => have := hs o r hr; rw [R.fresh o h] at this; cases this
      up := R.up
      tmn := fun i v hv => by
        rcases ht2 i v hv with h | rfl
        · exact noNew_mono hNew (R.tmn i v h)
        · simp [noNew]
      wk := R.wk
      fr := fun b hb hl => ⟨by simp [subO, (R.fr b hb hl).1], (R.fr b hb hl).2⟩
      k0 := fun b l hb => ⟨subO_iff.2 ⟨(R.k0 b l hb).1, .inl rfl⟩, (R.k0 b l hb).2⟩
      f0 := fun b l hb => R.f0 b l (subO_iff.1 hb).1
      df := R.df
      gr := ⟨R.gr.1, fun b hb => by simp [subO, R.gr.2.1 b hb], R.gr.2.2⟩
      am := fun i b n h1 h2 h3 h4 => by
        obtain ⟨r, hr⟩ := Option.isSome_iff_exists.1 h4
        have := R.am i b n h1 h2 h3 (by rw [hs i r hr]; rfl)
        exact ⟨subO_iff.2 ⟨this.1, .inr h4⟩, this.2⟩
      le := R.le
      nl := R.nl }
end Go.Ln
/- Small steps: the machine takes them too. -/
set_option linter.unusedVariables false
set_option linter.unusedSimpArgs false
set_option linter.unusedSectionVars false
namespace Go.Ln
open Go

def item : It → Item
  | .code c => .code c
  | .ops ops is => .inRegion ops is
  | .blk id => .inBlock id
  | .lp c => .inLoop c
  | .dops ops _ _ _ => .inRegion ops []

/-- The rest of the run ends in a state that 'R' holds of. -/
def Fin (P : Program) (R : Act → World → Prop) (todo : List It) (a : Act) (w : World) : Prop :=
  ∀ (b : Frame) (cs : List Frame), ∃ a' w' td, R a' w' ∧ Steps P (lone (b.at a (todo.map item)) cs w) (lone { b.at a' td with mode := .returning } cs w')

variable {P : Program} {R : Act → World → Prop} {k : List It} {a : Act} {w : World}

theorem Fin.one {t t' : List It} (h : ∀ (b : Frame) (cs : List Frame), step P (lone (b.at a (t.map item)) cs w) = .next (lone (b.at a (t'.map item)) cs w)) (hk : Fin P R t' a w) : Fin P R t a w := fun b cs =>
  let ⟨a', w', td, r, s⟩ := hk b cs
  ⟨a', w', td, r, Steps.head (h b cs) s⟩

theorem exit_item : ∀ {k k' : List It} {id : Nat}, exitIt id k = some k' → exitTo id (k.map item) = some (k'.map item)
  | [], k', id, h => by simp [exitIt] at h
  | .blk id' :: k, k', id, h => by
    simp only [exitIt] at h
    split at h
    · rename_i he
      cases h
      simp [item, exitTo, he]
    · rename_i he
      have := exit_item h
      have hne : (id == id') = false := by simp; exact fun h => he h.symm
      have hne' : (id' == id) = false := by simpa using he
      simp [item, exitTo, hne, hne', this]
  | .code c :: k, k', id, h => by
    have := exit_item (k := k) (by simpa [exitIt] using h)
    simp [item, exitTo, this]
  | .ops o i :: k, k', id, h => by
    have := exit_item (k := k) (by simpa [exitIt] using h)
    simp [item, exitTo, this]
  | .lp c :: k, k', id, h => by
    have := exit_item (k := k) (by simpa [exitIt] using h)
    simp [item, exitTo, this]
  | .dops _ _ _ _ :: k, k', id, h => by
    have := exit_item (k := k) (by simpa [exitIt] using h)
    simp [item, exitTo, this]

end Go.Ln
/- What the interpreter runs, the machine runs. -/
set_option linter.unusedVariables false
set_option linter.unusedSimpArgs false
set_option linter.unusedSectionVars false
namespace Go.Ln
open Go
variable {P : Program} {R : Act → World → Prop} {k : List It} {a : Act} {w : World}

def onlyN (F : Act → World → Prop) : Exit → Act → World → Prop
  | .normal, a, w => F a w
  | _, _, _ => False

def FinX (P : Program) (R : Act → World → Prop) : List It → Act → World → Prop
  | .ops ops is :: k, a, w => wpOps P ops (onlyN (Fin P R k)) is a w
  | [], a, w => R a w
  | k, a, w => Fin P R k a w

theorem fin_ops {ops : Array Oper} {is : List Nat} (h : wpOps P ops (onlyN (Fin P R k)) is a w) : Fin P R (.ops ops is :: k) a w := by
  intro b cs
  obtain ⟨e, a1, w1, hq, harr⟩ := wp_ops is a w h b (k.map item) cs
  cases e with
  | normal =>
    obtain ⟨a', w', td, r, s⟩ := hq b cs
    exact ⟨a', w', td, r, Steps.trans harr s⟩
  | _ => exact hq.elim

theorem finX_fin : ∀ {k : List It}, FinX P R k a w → Fin P R k a w
  | .ops ops is :: k, h => fin_ops h
  | .code _ :: _, h => h
  | .blk _ :: _, h => h
  | .lp _ :: _, h => h
  | .dops _ _ _ _ :: _, h => h
  | [], h => fun b cs => ⟨_, _, _, h, .one step_end⟩

section
variable {E : Env} {G : Ground} (hG : ∀ f e, E.fn f = some e → Good P G f e) (A : Agree P E) {m : Nat} {w0 : World} {ρ0 : Own} {ρ : Own} {st st' : St} {Q : St → Prop}
include hG A

def PostR (G : Ground) (m : Nat) (w0 : World) (ρ0 : Own) (Q : St → Prop) (a : Act) (w : World) : Prop := ∃ ρ st, Rel G m w0 ρ0 w ρ st a ∧ Q st

theorem step_sound {k' : List It} (h : step1 E k st = some (k', st')) (R0 : Rel G m w0 ρ0 w ρ st a) (ih : ∀ w ρ a, Rel G m w0 ρ0 w ρ st' a → FinX P (PostR G m w0 ρ0 Q) k' a w) : FinX P (PostR G m w0 ρ0 Q) k a w := by
  unfold step1 at h
  split at h
  · cases h
    exact Fin.one (fun b cs => step_skip) (finX_fin (ih w ρ a R0))
  · rename_i id ops k
    cases h
    exact Fin.one (t' := .ops ops (List.range ops.size) :: k) (fun b cs => step_region) (finX_fin (ih w ρ a R0))
  · rename_i x y k
    cases h
    exact Fin.one (t' := .code x :: .code y :: k) (fun b cs => step_seq) (finX_fin (ih w ρ a R0))
  · rename_i c x y k
    simp only [Option.bind_eq_some_iff] at h
    obtain ⟨cv, hc, h⟩ := h
    have hs := ev_rep R0.tm hc
    split at h
    · cases h
      exact Fin.one (t' := .code x :: k) (fun b cs => step_cond (t := true) (slot_bool hs)) (finX_fin (ih w ρ a R0))
    · cases h
      exact Fin.one (t' := .code y :: k) (fun b cs => step_cond (t := false) (slot_bool hs)) (finX_fin (ih w ρ a R0))
    · cases h
  · rename_i id c k
    cases h
    exact Fin.one (t' := .code c :: .blk id :: k) (fun b cs => step_block) (finX_fin (ih w ρ a R0))
  · rename_i c k
    cases h
    exact Fin.one (t' := .code c :: .lp c :: k) (fun b cs => step_loop) (finX_fin (ih w ρ a R0))
  · rename_i id k
    simp only [Option.map_eq_some_iff] at h
    obtain ⟨k1, hk, h⟩ := h
    cases h
    exact Fin.one (fun b cs => step_exit (exit_item hk)) (finX_fin (ih w ρ a R0))
  · cases h
    exact fun b cs => ⟨a, w, _, ih w ρ a R0, .one step_ret⟩
  · cases h
    exact finX_fin (ih w ρ a R0)
  · rename_i ops i is k
    simp only [Option.map_eq_some_iff] at h
    obtain ⟨st1, hst, h⟩ := h
    cases h
    exact R0.step hG A hst fun w' ρ' a' R' => ih w' ρ' a' R'
  · cases h
    exact Fin.one (fun b cs => step_inBlock) (finX_fin (ih w ρ a R0))
  · rename_i c k
    cases h
    exact Fin.one (t' := .code c :: .lp c :: k) (fun b cs => step_inLoop) (finX_fin (ih w ρ a R0))
  · cases h
end
end Go.Ln
/- Forgetting: what is not named is let go, the rest is numbered anew. -/
set_option linter.unusedVariables false
set_option linter.unusedSimpArgs false
set_option linter.unusedSectionVars false
namespace Go.Ln
open Go
variable {w : World} {ρ : Own} {rt rt' : Store}

theorem idx_pos {o : Nat} : ∀ {os : List Nat} {n m : Nat}, idx o os n = some m → n ≤ m ∧ os[m - n]? = some o
  | [], n, m, h => by simp [idx] at h
  | x :: xs, n, m, h => by
    simp only [idx] at h
    split at h
    · rename_i hx
      cases h
      subst hx
      simp
    · obtain ⟨h1, h2⟩ := idx_pos h
      refine ⟨by omega, ?_⟩
      rw [show m - n = (m - (n + 1)) + 1 by omega]
      simpa using h2

def renOwn (ρ : Own) (os : List Nat) : Own := fun b =>
  match ρ b with
  | none => none
  | some (o, l) => if o = 0 then some (0, l) else (idx o os 1).map fun n => (n, l)
theorem renOwn_none {os b} (h : ρ b = none) : renOwn ρ os b = none := by simp [renOwn, h]
theorem renOwn_far {os b l} (h : ρ b = some (0, l)) : renOwn ρ os b = some (0, l) := by simp [renOwn, h]
theorem renOwn_some {os b o l n} (h : ρ b = some (o, l)) (h0 : o ≠ 0) (hn : idx o os 1 = some n) : renOwn ρ os b = some (n, l) := by simp [renOwn, h, h0, hn]
theorem renOwn_inv {os b n l} (h : renOwn ρ os b = some (n, l)) : (n = 0 ∧ ρ b = some (0, l)) ∨ ∃ o, ρ b = some (o, l) ∧ o ≠ 0 ∧ idx o os 1 = some n := by
  unfold renOwn at h
  split at h
  · cases h
  · rename_i o l' hb
    split at h
    · rename_i h0
      cases h
      subst h0
      exact .inl ⟨rfl, hb⟩
    · rename_i h0
      simp only [Option.map_eq_some_iff] at h
      obtain ⟨m, hm, h⟩ := h
      cases h
      exact .inr ⟨o, hb, h0, hm⟩

theorem nub_nodup : ∀ {xs acc : List Nat}, acc.Nodup → (nub acc xs).Nodup
  | [], acc, h => h
  | x :: xs, acc, h => by
    simp only [nub]
    split
    · exact nub_nodup h
    · rename_i hx
      refine nub_nodup (List.nodup_append.2 ⟨h, by simp, ?_⟩)
      intro a ha b hb hab
      simp at hb
      subst hb
      subst hab
      exact hx (by simpa using ha)
theorem nub_mem : ∀ {xs acc : List Nat} {x : Nat}, x ∈ nub acc xs ↔ x ∈ acc ∨ x ∈ xs
  | [], acc, x => by simp [nub]
  | y :: xs, acc, x => by
    simp only [nub]
    split
    · rename_i hy
      rw [nub_mem]
      simp only [List.contains_eq_mem, decide_eq_true_eq] at hy
      constructor
      · rintro (h | h)
        · exact .inl h
        · exact .inr (by simp [h])
      · rintro (h | h)
        · exact .inl h
        · rcases List.mem_cons.1 h with h | h
          · subst h; exact .inl hy
          · exact .inr h
    · rw [nub_mem]
      simp only [List.mem_append, List.mem_cons, List.not_mem_nil, or_false]
      constructor
      · rintro ((h | h) | h)
        · exact .inl h
        · exact .inr (.inl h)
        · exact .inr (.inr h)
      · rintro (h | h | h)
        · exact .inl (.inl h)
        · exact .inl (.inr h)
        · exact .inr h

theorem idx_get : ∀ {os : List Nat} {n m o : Nat}, os.Nodup → os[m]? = some o → idx o os n = some (n + m)
  | [], n, m, o, hd, h => by simp at h
  | x :: xs, n, m, o, hd, h => by
    simp only [idx]
    cases m with
    | zero => simp at h; subst h; simp
    | succ m =>
      have hd' := List.nodup_cons.1 hd
      have hne : x ≠ o := by
        rintro rfl
        exact hd'.1 (List.mem_of_getElem? (by simpa using h))
      rw [if_neg hne, idx_get hd'.2 (by simpa using h)]
      congr 1
      omega
theorem idx_mem {o : Nat} {os : List Nat} (hd : os.Nodup) (h : o ∈ os) : ∃ n, idx o os 1 = some n := by
  obtain ⟨m, hm⟩ := List.mem_iff_getElem?.1 h
  exact ⟨1 + m, idx_get hd hm⟩

def renRt (rt : Store) (os : List Nat) : Store := getL (os.map fun o => (rt o).map fun r => ⟨0, r.s, r.es⟩)
theorem renRt_some {os : List Nat} {o n : Nat} (hn : idx o os 1 = some n) : renRt rt os n = (rt o).map fun r => ⟨0, r.s, r.es⟩ := by
  obtain ⟨h1, h2⟩ := idx_pos hn
  unfold renRt getL
  rw [if_neg (by omega), List.getElem?_map, h2]
  simp
theorem renRt_inv {os : List Nat} (hd : os.Nodup) {n : Nat} {r' : Root} (h : renRt rt os n = some r') : ∃ o r, idx o os 1 = some n ∧ rt o = some r ∧ r' = ⟨0, r.s, r.es⟩ := by
  unfold renRt getL at h
  split at h
  · cases h
  · rename_i h0
    rw [List.getElem?_map] at h
    cases ho : os[n - 1]? with
    | none => simp [ho] at h
    | some o =>
      simp only [ho, Option.map_some, Option.bind_some, Option.map_eq_some_iff] at h
      obtain ⟨r, hr, rfl⟩ := h
      exact ⟨o, r, by rw [idx_get hd ho]; congr 1; omega, hr, rfl⟩
end Go.Ln
/- Forgetting is sound. -/
set_option linter.unusedVariables false
set_option linter.unusedSimpArgs false
set_option linter.unusedSectionVars false
namespace Go.Ln
open Go
variable {w : World} {ρ : Own} {rt : Store}

theorem ren_one {os : List Nat} {v : V} (h : isAggV v = false) : isAggV (ren rt os v) = false := by
  cases v <;> first | (simp [isAggV] at h; done) | skip
  all_goals simp only [ren] <;> first | rfl | (split <;> rfl)
theorem rens_map {os : List Nat} : ∀ {vs : List V}, rens rt os vs = vs.map (ren rt os)
  | [] => rfl
  | v :: vs => by simp [rens, rens_map]
theorem cells_ren {os : List Nat} {v : V} : cells (ren rt os v) = (cells v).map (ren rt os) := by
  by_cases ha : isAggV v = true
  · cases v <;> simp [isAggV] at ha
    simp [ren, cells, rens_map]
  · have ha' : isAggV v = false := by simpa using ha
    rw [cells_one ha', cells_one (ren_one ha')]
    rfl
theorem agg_ren {os : List Nat} {v : V} : isAggV (ren rt os v) = isAggV v := by
  by_cases ha : isAggV v = true
  · cases v <;> simp [isAggV] at ha
    simp [ren, isAggV]
  · have ha' : isAggV v = false := by simpa using ha
    rw [ren_one ha', ha']

/-- A handle's row, by its new number. -/
theorem ren_live {os : List Nat} (hd : os.Nodup) {o n nv : Nat} {p : List (Nat × Nat)} {r : Root} (hv : valid rt o nv p = some r) (hn : idx o os 1 = some n) (h : live (renRt rt os) n 0 p) : live rt o nv p := by
  unfold live look at h ⊢
  rw [hv]
  have h1 := renRt_some (rt := rt) hn
  rw [(valid_some hv).1] at h1
  simp only [valid, h1, Option.map_some] at h
  simpa using h

section
variable (hL : Lab w ρ rt noU) {os : List Nat} (hd : os.Nodup)
include hL hd

theorem ren_keep0 : Keep0 (fun _ _ => True) w ρ rt w (renOwn ρ os) (renRt rt os) := ⟨fun b hb _ => ⟨renOwn_none hb, rfl⟩, fun _ _ _ h _ => absurd trivial h⟩

theorem ren_rep {L : Option Loc} {v : V} {u : Value} (h : RepV w ρ rt L v u) : L = none → noNew (fun o _ => rt o = none ∧ False) v → RepV w (renOwn ρ os) (renRt rt os) none (ren rt os v) u := by
  have K := ren_keep0 hL hd
  have far : ∀ {v : V} {u : Value}, RepV w ρ rt none v u → nh v → RepV w (renOwn ρ os) (renRt rt os) none v u := fun h hn => by
    have := h.mono0 K id (fun _ => False) (fun _ _ _ _ => rfl) (fun _ _ _ h => h) (fun _ _ h => h.elim) (by simp) (nh_noNew hn)
    simpa using this
  induction h with
  | und L => exact fun _ _ => by simpa [ren] using RepV.und none
  | dead L u => exact fun _ _ => by simpa [ren] using RepV.dead none u
  | bool L b => exact fun _ _ => by simpa [ren] using RepV.bool none b
  | int L k n => exact fun _ _ => by simpa [ren] using RepV.int none k n
  | str L s => exact fun _ _ => by simpa [ren] using RepV.str none s
  | nilp L => exact fun _ _ => by simpa [ren] using RepV.nilp none
  | nilfn L => exact fun _ _ => by simpa [ren] using RepV.nilfn none
  | nilif L => exact fun _ _ => by simpa [ren] using RepV.nilif none
  | fn L f caps g h ih =>
    intro _ hn
    simp only [ren]
    have : caps.length = (rens rt os caps).length := by simp [rens_map]
    rw [this]
    refine .fn _ _ _ g fun i v hv => ?_
    rw [rens_map, List.getElem?_map] at hv
    obtain ⟨v0, hv0, rfl⟩ := Option.map_eq_some_iff.1 hv
    exact ih i v0 hv0 rfl (noNews_get (by simpa [noNew] using hn) hv0)
  | iface L t v g h ih =>
    exact fun hL hn => by
      simp only [ren]
      exact far (.iface none t v g h) (by simpa [noNew, nh] using hn)
  | tup L vs p g hp h ih =>
    intro _ hn
    simp only [ren]
    have : vs.length = (rens rt os vs).length := by simp [rens_map]
    rw [this]
    refine .tup _ _ p g (fun c v hv => ?_) fun c v k x hv hx => ?_
    · rw [rens_map, List.getElem?_map] at hv
      obtain ⟨v0, hv0, rfl⟩ := Option.map_eq_some_iff.1 hv
      rw [hp c v0 hv0]
      unfold pack
      rw [agg_ren, cells_ren, List.length_map]
    · rw [rens_map, List.getElem?_map] at hv
      obtain ⟨v0, hv0, rfl⟩ := Option.map_eq_some_iff.1 hv
      rw [cells_ren, List.getElem?_map] at hx
      obtain ⟨x0, hx0, rfl⟩ := Option.map_eq_some_iff.1 hx
      exact ih c v0 k x0 hv0 hx0 rfl (noNew_cell (noNews_get (by simpa [noNew] using hn) hv0) hx0)
  | iptr L e k b off g hb hρ hc h ih =>
    exact fun _ hn => by
      simp only [ren]
      exact far (.iptr none e k b off g hb hρ hc h) (by simpa [noNew, nh] using hn)
  | isl0 L nl A c hn => exact fun _ _ => by simpa [ren] using RepV.isl0 none nl A c hn
  | isl L es b off c s g hl h0 hρ hb hs hc h ih =>
    exact fun _ hn => by
      simp only [ren]
      exact far (.isl none es b off c s g hl h0 hρ hb hs hc h) (by simpa [noNew, nh] using hn)
  | usl0 l s A => exact fun h => by cases h
  | usl l s es b A c arr T g hρ hb hl hA hcap hs hc h ih => exact fun h => by cases h
  | uptr l e b arr T g hρ hb hc h ih => exact fun h => by cases h
  | hp L o nv p s i k u h h1 =>
    intro _ _
    simp only [ren]
    split
    · rename_i r n hv hn
      refine .hp _ _ _ _ _ _ _ _ (fun hl => ?_) h1
      obtain ⟨b, m, hb, hbl, hu⟩ := h (ren_live hd hv hn hl)
      have ho : o ≠ 0 := by
        rintro rfl
        have h2 := (valid_some hv).1
        rw [hL.z] at h2
        cases h2
      exact ⟨b, m, renOwn_some hb ho hn, hbl, hu⟩
    · exact .dead _ _
  | hs L o nv p s off len u h h1 =>
    intro _ _
    simp only [ren]
    split
    · rename_i r n hv hn
      refine .hs _ _ _ _ _ _ _ _ (fun hl => ?_) h1
      obtain ⟨c, A, hu, hlc, hcc⟩ := h (ren_live hd hv hn hl)
      have ho : o ≠ 0 := by
        rintro rfl
        have h2 := (valid_some hv).1
        rw [hL.z] at h2
        cases h2
      exact ⟨c, A, hu, hlc, fun h0 => by
        obtain ⟨b, m, hb, hbl, h3, h4⟩ := hcc h0
        exact ⟨b, m, renOwn_some hb ho hn, hbl, h3, h4⟩⟩
    · exact .dead _ _
end
end Go.Ln
/- Forgetting keeps the state's relation; what the interpreter runs to an end, the machine runs to an end. -/
set_option linter.unusedVariables false
set_option linter.unusedSimpArgs false
set_option linter.unusedSectionVars false
namespace Go.Ln
open Go
variable {w : World} {ρ : Own} {rt : Store}

theorem keepT_get {L : List Nat} : ∀ {tm : List V} {n i : Nat} {v : V}, (keepT L n tm)[i]? = some v → ∃ v0, tm[i]? = some v0 ∧ (v = v0 ∨ v = .dead)
  | [], n, i, v, h => by simp [keepT] at h
  | x :: tm, n, 0, v, h => by
    simp only [keepT, List.getElem?_cons_zero, Option.some.injEq] at h
    refine ⟨x, by simp, ?_⟩
    split at h
    · exact .inl h.symm
    · exact .inr h.symm
  | x :: tm, n, i + 1, v, h => by
    simp only [keepT, List.getElem?_cons_succ] at h
    simpa using keepT_get h
theorem keepT_len {L : List Nat} : ∀ {tm : List V} {n : Nat}, (keepT L n tm).length = tm.length
  | [], n => rfl
  | x :: tm, n => by simp [keepT, keepT_len]

theorem renOwn_inj {os : List Nat} (hd : os.Nodup) (J : Inj ρ) : Inj (renOwn ρ os) := by
  rintro b b' ⟨n, l⟩ h h'
  rcases renOwn_inv h with ⟨h0, h1⟩ | ⟨o, h1, h2, h3⟩ <;> rcases renOwn_inv h' with ⟨h0', h1'⟩ | ⟨o', h1', h2', h3'⟩
  · exact J b b' _ h1 h1'
  · subst h0; have := (idx_pos h3').1; omega
  · subst h0'; have := (idx_pos h3).1; omega
  · have e : o = o' := by
      have a := (idx_pos h3).2
      have a' := (idx_pos h3').2
      rw [a] at a'
      simpa using a'
    subst e
    exact J b b' _ h1 h1'

theorem ren_lab {os : List Nat} (hd : os.Nodup) (hL : Lab w ρ rt noU) : Lab w (renOwn ρ os) (renRt rt os) noU := by
  refine ⟨fun b n l h => ?_, by simp [renRt, getL], fun b l h => ?_⟩
  · rcases renOwn_inv h with ⟨h0, h1⟩ | ⟨o, h1, h2, h3⟩
    · exact ⟨(hL.l b 0 l h1).1, .inl h0⟩
    · obtain ⟨h4, h5⟩ := hL.l b o l h1
      rcases h5 with h5 | ⟨r, h5⟩
      · exact absurd h5 h2
      · exact ⟨h4, .inr ⟨_, by rw [renRt_some h3, h5]; rfl⟩⟩
  · rcases renOwn_inv h with ⟨h0, h1⟩ | ⟨o, h1, h2, h3⟩
    · exact hL.f b l h1
    · have := (idx_pos h3).1; omega

theorem ren_rok {os : List Nat} (hd : os.Nodup) (hL : Lab w ρ rt noU) (H : RtOk w ρ rt) (hr : RtN rt) : RtOk w (renOwn ρ os) (renRt rt os) := by
  intro n r' h
  obtain ⟨o, r, hn, ho, rfl⟩ := renRt_inv hd h
  have ho0 : o ≠ 0 := by rintro rfl; rw [hL.z] at ho; cases ho
  rcases H o r ho with h0 | ⟨b, arr, T, g, h1, h2, h3, h4, h5⟩
  · exact .inl h0
  · refine .inr ⟨b, arr, T, g, renOwn_some h1 ho0 hn, h2, h3, h4, fun i e k x he hx => ?_⟩
    have K : Keep0 (fun _ _ => True) w ρ rt w (renOwn ρ os) (renRt rt os) := ren_keep0 hL hd
    have := (h5 i e k x he hx).mono0 K (fun l => (n, l.2)) (fun l => l.1 = o) (fun l i k _ => rfl) (fun l i k h => h)
      (fun b l hl hb => ⟨by
        obtain ⟨lo, ll⟩ := l
        simp only at hl
        subst hl
        exact renOwn_some hb ho0 hn, rfl⟩) (fun l hl => by cases hl; rfl) (nh_noNew (nh_cell (nhs_get (hr o r ho) he) hx))
    simpa [Loc.at] using this

theorem renRt_high {os : List Nat} {n : Nat} (h : os.length + 1 ≤ n) : renRt rt os n = none := by
  unfold renRt getL
  rw [if_neg (by omega), List.getElem?_eq_none (by simp; omega)]
  rfl
theorem renRt_nv {os : List Nat} (hd : os.Nodup) {n : Nat} {r : Root} (h : renRt rt os n = some r) : r.nv = 0 := by
  obtain ⟨o, r0, _, _, rfl⟩ := renRt_inv hd h
  rfl

mutual
theorem ren_nn {os : List Nat} (hd : os.Nodup) {N : Nat → Nat → Prop} : ∀ {v : V}, noNew N v → noNew (NewOf (past (os.length + 1)) (renRt rt os)) (ren rt os v)
  | .und, _ => by simp [ren, noNew]
  | .dead, _ => by simp [ren, noNew]
  | .bool _, _ => by simp [ren, noNew]
  | .int _ _, _ => by simp [ren, noNew]
  | .str _, _ => by simp [ren, noNew]
  | .nilp, _ => by simp [ren, noNew]
  | .nilfn, _ => by simp [ren, noNew]
  | .nilif, _ => by simp [ren, noNew]
  | .fn _ cs, h => by simp only [ren, noNew] at h ⊢; exact rens_nn hd h
  | .agg cs, h => by simp only [ren, noNew] at h ⊢; exact rens_nn hd h
  | .tup cs, h => by simp only [ren, noNew] at h ⊢; exact rens_nn hd h
  | .iface _ v, h => by simpa [ren, noNew] using h
  | .iptr e _, h => by simpa [ren, noNew] using h
  | .isl _ es, h => by simpa [ren, noNew] using h
  | .uptr e, h => by simpa [ren, noNew] using h
  | .usl _ es, h => by simpa [ren, noNew] using h
  | .hp o nv p s i k, h => by
    simp only [ren]
    split
    · rename_i r n hv hn
      simp only [noNew]
      rintro (h1 | ⟨r', h1, h2⟩)
      · unfold past at h1
        obtain ⟨h3, h4⟩ := idx_pos hn
        have := (List.getElem?_eq_some_iff.1 h4).1
        omega
      · omega
    · simp [noNew]
  | .hs o nv p s i k, h => by
    simp only [ren]
    split
    · rename_i r n hv hn
      simp only [noNew]
      rintro (h1 | ⟨r', h1, h2⟩)
      · unfold past at h1
        obtain ⟨h3, h4⟩ := idx_pos hn
        have := (List.getElem?_eq_some_iff.1 h4).1
        omega
      · have := renRt_nv hd h1
        omega
    · simp [noNew]
theorem rens_nn {os : List Nat} (hd : os.Nodup) {N : Nat → Nat → Prop} : ∀ {vs : List V}, noNews N vs → noNews (NewOf (past (os.length + 1)) (renRt rt os)) (rens rt os vs)
  | [], _ => by simp [rens, noNews]
  | v :: vs, h => by simp only [rens, noNews] at h ⊢; exact ⟨ren_nn hd h.1, rens_nn hd h.2⟩
end
end Go.Ln
/- The state's relation outlasts forgetting; a run to an end. -/
set_option linter.unusedVariables false
set_option linter.unusedSimpArgs false
set_option linter.unusedSectionVars false
namespace Go.Ln
open Go
variable {G : Ground} {m : Nat} {w0 w : World} {ρ0 ρ : Own} {st : St} {a : Act}

theorem fixed_nodup (m : Nat) : (fixed m).Nodup := by
  unfold fixed
  exact List.nodup_range'
theorem nub_pre : ∀ {xs acc : List Nat}, ∃ r, nub acc xs = acc ++ r
  | [], acc => ⟨[], by simp [nub]⟩
  | x :: xs, acc => by
    simp only [nub]
    split
    · exact nub_pre
    · obtain ⟨r, h⟩ := @nub_pre xs (acc ++ [x])
      exact ⟨x :: r, by rw [h]; simp⟩
theorem nub_fixed {m i : Nat} {xs : List Nat} (h1 : 0 < i) (h2 : i ≤ m) : idx i (nub (fixed m) xs) 1 = some i := by
  have hd : (nub (fixed m) xs).Nodup := nub_nodup (fixed_nodup m)
  obtain ⟨r, h⟩ := @nub_pre xs (fixed m)
  have hg : (nub (fixed m) xs)[i - 1]? = some i := by
    rw [h, List.getElem?_append_left (by simp [fixed]; omega)]
    simp [fixed, List.getElem?_range', show i - 1 < m by omega]
    omega
  rw [idx_get hd hg]
  congr 1; omega
theorem nub_len {m : Nat} {xs : List Nat} : m ≤ (nub (fixed m) xs).length := by
  obtain ⟨r, h⟩ := @nub_pre xs (fixed m)
  rw [h]; simp [fixed]

theorem Rel.forget (R : Rel G m w0 ρ0 w ρ st a) (L : List Nat) : ∃ ρ', Rel G m w0 ρ0 w ρ' (normSt m L st) a := by
  have hd : (nub (fixed m) (idss (keepT L 0 st.tm))).Nodup := nub_nodup (fixed_nodup m)
  have hfx : ∀ i, 0 < i → i ≤ m → idx i (nub (fixed m) (idss (keepT L 0 st.tm))) 1 = some i := fun i h1 h2 => nub_fixed h1 h2
  have hlen : m ≤ (nub (fixed m) (idss (keepT L 0 st.tm))).length := nub_len
  generalize hos : nub (fixed m) (idss (keepT L 0 st.tm)) = os at hd hfx hlen
  have e1 : (normSt m L st).tm = rens st.rt os (keepT L 0 st.tm) := by simp [normSt, hos]
  have e2 : (normSt m L st).rt = renRt st.rt os := by simp [normSt, hos, renRt]
  have e3 : (normSt m L st).nx = os.length + 1 := by simp [normSt, hos]
  have nn : ∀ (i : Nat) v, (keepT L 0 st.tm)[i]? = some v → noNew (NewOf (past st.nx) st.rt) v := fun i v hv => by
    obtain ⟨v0, h1, h2 | h2⟩ := keepT_get hv
    · subst h2; exact R.tmn i v h1
    · subst h2; simp [noNew]
  refine ⟨renOwn ρ os, ⟨?_, ?_, renOwn_inj hd R.inj, ?_, ?_, ?_, ?_, ?_, R.wk, ?_, ?_, ?_, R.df, ?_, ?_, R.le, fun i h1 h2 => by rw [e3] at h2; unfold past at h2; omega⟩⟩
  · rw [e1, e2]
    refine ⟨by rw [rens_map, List.length_map, keepT_len]; exact R.tm.1, fun i v u hv hu => ?_⟩
    rw [rens_map, List.getElem?_map] at hv
    obtain ⟨v1, hv1, rfl⟩ := Option.map_eq_some_iff.1 hv
    obtain ⟨v0, h0, h2 | h2⟩ := keepT_get hv1
    · subst h2
      obtain ⟨g, hg, hs⟩ := R.tm.2 i v1 u h0 hu
      refine ⟨g, ?_, fun k x hx => ?_⟩
      · rw [hg]; unfold pack; rw [agg_ren, cells_ren, List.length_map]
      · rw [cells_ren, List.getElem?_map] at hx
        obtain ⟨x0, hx0, rfl⟩ := Option.map_eq_some_iff.1 hx
        exact ren_rep R.lab hd (hs k x0 hx0) rfl (noNew_mono (by rintro o nv ⟨_, h⟩; exact h.elim) (noNew_cell (R.tmn i v1 h0) hx0))
    · subst h2
      simp only [ren]
      exact Slot.mk1 rfl (.dead _ _)
  · rw [e2]; exact ren_rok hd R.lab R.rok R.rtn
  · rw [e2]
    intro n r h
    obtain ⟨o, r0, _, h1, rfl⟩ := renRt_inv hd h
    exact R.rtn o r0 h1
  · rw [e2]; exact ren_lab hd R.lab
  · rw [e2, e3]; exact fun o ho => renRt_high ho
  · rw [e3]; intro o ho; unfold past at ho; omega
  · rw [e1, e2, e3]
    intro i v hv
    rw [rens_map, List.getElem?_map] at hv
    obtain ⟨v1, hv1, rfl⟩ := Option.map_eq_some_iff.1 hv
    exact ren_nn hd (nn i v1 hv1)
  · exact fun b h1 h2 => ⟨renOwn_none (R.fr b h1 h2).1, (R.fr b h1 h2).2⟩
  · exact fun b l h => ⟨renOwn_far (R.k0 b l h).1, (R.k0 b l h).2⟩
  · intro b l h
    rcases renOwn_inv h with ⟨_, h1⟩ | ⟨o, h1, h2, h3⟩
    · exact R.f0 b l h1
    · have := (idx_pos h3).1; omega
  · exact ⟨R.gr.1, fun b hb => renOwn_none (R.gr.2.1 b hb), R.gr.2.2⟩
  · intro i b n hi hb hn hs
    have hle := R.le b i [] hb
    rw [e2, renRt_some (hfx i hi hle)] at hs
    have h0 := R.am i b n hi hb hn (by simpa using hs)
    exact ⟨renOwn_some h0.1 (by omega) (hfx i hi hle), h0.2⟩

end Go.Ln
/- A function's contract out of a run of the interpreter. -/
set_option linter.unusedVariables false
set_option linter.unusedSimpArgs false
set_option linter.unusedSectionVars false
namespace Go.Ln
open Go
variable {w w' : World} {ρ ρ' : Own} {rt rt' : Store}

/-! ### the results -/
theorem result1_run {P : Program} {E : Env} (A : Agree P E) (H : RtOk w ρ rt) (J : Inj ρ) {st : St} (hst : st.rt = rt) {tmps : Array Value} (T : TmOk w ρ rt st.tm tmps) {r : ResultVar} {v : V} (h : result1 E st r = some v) :
    ∃ u, ((match r with
      | .tmp t => pure (tmps.getD t undef)
      | .cell a t => do loadVar t (← asAddr (tmps.getD a undef))) : Sem Value).run P w = .ok u w ∧ Slot w ρ rt nowhere v u := by
  cases r with
  | tmp t =>
    simp only [result1] at h
    have hl := (List.getElem?_eq_some_iff.1 h).1
    obtain ⟨u, hu⟩ : ∃ u, tmps[t]? = some u := ⟨_, Array.getElem?_eq_getElem (by rw [← T.1]; exact hl)⟩
    exact ⟨u, by simp [Array.getD_eq_getD_getElem?, hu], T.2 t v u h hu⟩
  | cell a t =>
    simp only [result1, Option.bind_eq_some_iff] at h
    obtain ⟨ti, ht, p, hp, cs, hc, h⟩ := h
    split at h
    · rename_i hsz
      have hl := (List.getElem?_eq_some_iff.1 hp).1
      obtain ⟨u0, hu0⟩ : ∃ u, tmps[a]? = some u := ⟨_, Array.getElem?_eq_getElem (by rw [← T.1]; exact hl)⟩
      have hpv : isAggV p = false := by cases p <;> first | rfl | simp [from_] at hc
      rw [hst] at hc
      obtain ⟨b, off, hu, hr⟩ := from_rep H J hc (Slot.one hpv (T.2 a p u0 hp hu0)) (by omega)
      have hx : ∀ j, j < ti.size → ∃ y, w.cell? ⟨b, off + j, none⟩ = some y ∧ ∀ x, cs[j]? = some x → RepV w ρ rt none x y := by
        intro j hj
        obtain ⟨y, h1, h2⟩ := hr j (cs[j]'(by omega)) (by simp)
        exact ⟨y, h1, fun x hx => by rw [List.getElem?_eq_getElem (by omega)] at hx; cases hx; exact h2⟩
      have hg : ∃ g : Nat → Value, ∀ j, j < ti.size → w.cell? ⟨b, off + j, none⟩ = some (g j) ∧ ∀ x, cs[j]? = some x → RepV w ρ rt none x (g j) := by
        refine ⟨fun j => if hj : j < ti.size then (hx j hj).choose else undef, fun j hj => ?_⟩
        simp only [hj, dif_pos]
        exact (hx j hj).choose_spec
      obtain ⟨g, hg⟩ := hg
      have h1 : isAggD ti.desc = false → ti.size = 1 := fun ha => by
        unfold mkVal at h
        rw [if_neg (by simp [ha])] at h
        split at h
        · rename_i v' hv'
          have := congrArg List.length hv'
          simp [Nat.min_eq_left hsz.2] at this
          exact this
        · cases h
      refine ⟨_, ?_, mkVal_slot (g := g) h (fun k x hk => ?_)⟩
      · simp only [Array.getD_eq_getD_getElem?, hu0, Option.getD_some, hu, asAddr, Sem.run_bind, Sem.run_pure, Result.andThen]
        rw [run_loadVar A ht (fun j hj => (hg j hj).1) h1]
        simp [List.length_take, Nat.min_eq_left hsz.2]
      · rw [List.getElem?_take] at hk
        split at hk
        · rename_i hk'
          exact (hg k hk').2 x hk
        · cases hk
    · cases h

theorem resultsV_get {E : Env} {st : St} : ∀ {rs : List ResultVar} {vs : List V}, resultsV E st rs = some vs → vs.length = rs.length ∧ ∀ (i : Nat) r v, rs[i]? = some r → vs[i]? = some v → result1 E st r = some v
  | [], vs, h => by simp [resultsV] at h; subst h; simp
  | r :: rs, vs, h => by
    simp only [resultsV, Option.bind_eq_some_iff, Option.map_eq_some_iff] at h
    obtain ⟨v, hv, ys, hys, rfl⟩ := h
    have ih := resultsV_get hys
    refine ⟨by simp [ih.1], fun i r' v' h1 h2 => ?_⟩
    cases i with
    | zero => simp at h1 h2; subst h1 h2; exact hv
    | succ i => exact ih.2 i r' v' (by simpa using h1) (by simpa using h2)

theorem results_run {P : Program} {E : Env} (A : Agree P E) (H : RtOk w ρ rt) (J : Inj ρ) {st : St} (hst : st.rt = rt) {tmps : Array Value} (T : TmOk w ρ rt st.tm tmps) {fn : Func} {vs : List V} (h : resultsV E st fn.results.toList = some vs) :
    ∃ p : Nat → Value, (results fn tmps).run P w = .ok (if vs.length = 1 then p 0 else .tuple (arrOf vs.length p)) w ∧ ∀ (i : Nat) v, vs[i]? = some v → Slot w ρ rt nowhere v (p i) := by
  obtain ⟨hl, hg⟩ := resultsV_get h
  have hx : ∀ i, i < vs.length → ∃ u, ∀ r v, fn.results.toList[i]? = some r → vs[i]? = some v → ((match r with
      | .tmp t => pure (tmps.getD t undef)
      | .cell a t => do loadVar t (← asAddr (tmps.getD a undef))) : Sem Value).run P w = .ok u w ∧ Slot w ρ rt nowhere v u := by
    intro i hi
    obtain ⟨u, h1, h2⟩ := result1_run A H J hst T (hg i _ _ (List.getElem?_eq_getElem (by omega)) (List.getElem?_eq_getElem hi))
    refine ⟨u, fun r v hr hv => ?_⟩
    rw [List.getElem?_eq_getElem (by omega)] at hr
    rw [List.getElem?_eq_getElem hi] at hv
    cases hr
    cases hv
    exact ⟨h1, h2⟩
  have hp : ∃ p : Nat → Value, ∀ i, i < vs.length → ∀ r v, fn.results.toList[i]? = some r → vs[i]? = some v → ((match r with
      | .tmp t => pure (tmps.getD t undef)
      | .cell a t => do loadVar t (← asAddr (tmps.getD a undef))) : Sem Value).run P w = .ok (p i) w ∧ Slot w ρ rt nowhere v (p i) := by
    refine ⟨fun i => if hi : i < vs.length then (hx i hi).choose else undef, fun i hi => ?_⟩
    simp only [hi, dif_pos]
    exact (hx i hi).choose_spec
  obtain ⟨p, hp⟩ := hp
  refine ⟨p, ?_, fun i v hv => ?_⟩
  · have hm := mapM_run (P := P) w (l := fn.results.toList) (r := (List.range vs.length).map p) (f := fun r => ((match r with
      | .tmp t => pure (tmps.getD t undef)
      | .cell a t => do loadVar t (← asAddr (tmps.getD a undef))) : Sem Value)) (by simp [hl]) (fun i r u h1 h2 => by
        rw [List.getElem?_map] at h2
        obtain ⟨j, hj, rfl⟩ := Option.map_eq_some_iff.1 h2
        have hi : i < vs.length := by
          have := (List.getElem?_eq_some_iff.1 hj).1
          simpa using this
        have : j = i := by simpa [List.getElem?_range hi] using hj.symm
        subst this
        exact (hp j hi r _ h1 (List.getElem?_eq_getElem hi)).1)
    unfold results
    rw [Array.mapM_eq_mapM_toList]
    simp only [Sem.run_bind, map_eq_pure_bind, Sem.run_pure, Result.andThen]
    erw [hm]
    simp only [Result.andThen, List.size_toArray, List.length_map, List.length_range]
    by_cases h1 : vs.length = 1
    · simp [h1]
    · simp [h1, arrOf]
  · have hi := (List.getElem?_eq_some_iff.1 hv).1
    exact (hp i hi _ v (List.getElem?_eq_getElem (by omega)) hv).2
end Go.Ln
/- A function's contract out of a run of the interpreter, continued: the call as a whole. -/
set_option linter.unusedVariables false
set_option linter.unusedSimpArgs false
set_option linter.unusedSectionVars false
namespace Go.Ln
open Go
variable {w w' : World} {ρ ρ' : Own} {rt rt' : Store}

theorem outs_at {rt : Store} : ∀ {own : List Bool} {vs : List V} {a : Nat} {x : V}, outAt own (outs rt own vs) a = some x → ∃ v, vs[a]? = some v ∧ x = out1 rt v
  | [], vs, a, x, h => by cases vs <;> simp [outs, outAt] at h
  | true :: bs, [], a, x, h => by simp [outs, outAt] at h
  | false :: bs, [], 0, x, h => by simp [outAt] at h
  | false :: bs, [], a + 1, x, h => by
    simp only [outs, outAt] at h
    have : outs rt bs [] = [] := by
      cases bs with
      | nil => rfl
      | cons b _ => cases b <;> rfl
    rw [← this] at h
    obtain ⟨v, hv, _⟩ := outs_at h
    simp at hv
  | true :: bs, v :: vs, 0, x, h => by simp [outs, outAt] at h; exact ⟨v, by simp, h.symm⟩
  | true :: bs, v :: vs, a + 1, x, h => by
    simp only [outs, outAt] at h
    obtain ⟨y, hy, hx⟩ := outs_at h
    exact ⟨y, by simpa using hy, hx⟩
  | false :: bs, v :: vs, 0, x, h => by simp [outAt] at h
  | false :: bs, v :: vs, a + 1, x, h => by
    simp only [outs, outAt] at h
    obtain ⟨y, hy, hx⟩ := outs_at h
    exact ⟨y, by simpa using hy, hx⟩

theorem plain_one {v : V} (h : plainV v = true) : isAggV v = false ∧ notOwn v := by
  cases v <;> simp [plainV] at h <;> exact ⟨rfl, trivial⟩
theorem outCell_one {v : V} : isAggV (outCell rt v) = false := by
  unfold outCell
  split
  · rename_i x hx
    unfold giveC at hx
    split at hx
    · simp only [Option.bind_eq_some_iff] at hx
      obtain ⟨r, _, hx⟩ := hx
      split at hx <;> cases hx
      rfl
    · simp only [Option.bind_eq_some_iff] at hx
      obtain ⟨r, _, hx⟩ := hx
      split at hx
      · split at hx <;> cases hx
        rfl
      · cases hx
    · split at hx
      · rename_i hp
        cases hx
        exact (plain_one hp).1
      · cases hx
  · rfl
theorem cells_out1 {v : V} : cells (out1 rt v) = (cells v).map (outCell rt) := by
  by_cases ha : isAggV v = true
  · cases v <;> simp [isAggV] at ha
    rfl
  · have ha' : isAggV v = false := by simpa using ha
    have : out1 rt v = outCell rt v := by cases v <;> first | rfl | simp [isAggV] at ha
    rw [this, cells_one ha', cells_one outCell_one]
    rfl
/-- An own cell that comes out: a whole root. -/
theorem outCell_own {v : V} (h : ¬ notOwn (outCell rt v)) : (∃ o nv s len r, v = .hs o nv [] s 0 len ∧ rt o = some r ∧ len = r.es.length ∧ s = r.s ∧ outCell rt v = .usl s r.es) ∨
    (∃ o nv s e r, v = .hp o nv [] s 0 0 ∧ rt o = some r ∧ r.es = [e] ∧ s = r.s ∧ (cells e).length = s ∧ outCell rt v = .uptr e) := by
  unfold outCell at h ⊢
  split at h
  · rename_i x hx
    unfold giveC at hx
    split at hx
    · rename_i o nv s off len
      simp only [Option.bind_eq_some_iff] at hx
      obtain ⟨r, hr, hx⟩ := hx
      split at hx
      · rename_i hc
        cases hx
        obtain ⟨rfl, h2, h3⟩ := hc
        exact .inl ⟨o, nv, s, len, r, rfl, hr, h2, h3, rfl⟩
      · cases hx
    · rename_i o nv s i k
      simp only [Option.bind_eq_some_iff] at hx
      obtain ⟨r, hr, hx⟩ := hx
      split at hx
      · rename_i e he
        split at hx
        · rename_i hc
          cases hx
          obtain ⟨rfl, rfl, h2, h3⟩ := hc
          exact .inr ⟨o, nv, s, e, r, rfl, hr, he, h2, h3, rfl⟩
        · cases hx
      · cases hx
    · split at hx
      · rename_i hp
        cases hx
        exact absurd (plain_one hp).2 h
      · cases hx
  · exact absurd trivial h

/-- The labels at the end of a call. -/
def endOwn (ρ : Own) (q : Nat) (R : List NewR) : Own := fun b =>
  match ρ b with
  | none => none
  | some (o, l) => if o = 0 then some (0, l) else if o = q then some (2, l) else (R[o - 1]?).map fun e => (1, (e.1, e.2.1) :: l)
theorem endOwn_none {q R b} (h : ρ b = none) : endOwn ρ q R b = none := by simp [endOwn, h]
theorem endOwn_far {q R b l} (h : ρ b = some (0, l)) : endOwn ρ q R b = some (0, l) := by simp [endOwn, h]
theorem endOwn_res {q R b l} (h : ρ b = some (q, l)) (h0 : q ≠ 0) : endOwn ρ q R b = some (2, l) := by simp [endOwn, h, h0]
theorem endOwn_arg {q R b l j c k r} (h : ρ b = some (1 + j, l)) (hq : 1 + j ≠ q) (hj : R[j]? = some (c, k, r)) : endOwn ρ q R b = some (1, (c, k) :: l) := by
  unfold endOwn
  rw [h]
  simp only
  rw [if_neg (by omega), if_neg hq, show 1 + j - 1 = j by omega, hj]
  rfl
theorem endOwn_inv {q R b n l} (h : endOwn ρ q R b = some (n, l)) : (n = 0 ∧ ρ b = some (0, l)) ∨ (n = 2 ∧ q ≠ 0 ∧ ρ b = some (q, l)) ∨ ∃ j c k r t, n = 1 ∧ l = (c, k) :: t ∧ ρ b = some (1 + j, t) ∧ 1 + j ≠ q ∧ R[j]? = some (c, k, r) := by
  unfold endOwn at h
  split at h
  · cases h
  · rename_i o l' hb
    split at h
    · rename_i h0
      cases h
      subst h0
      exact .inl ⟨rfl, hb⟩
    · rename_i h0
      split at h
      · rename_i hq
        cases h
        subst hq
        exact .inr (.inl ⟨rfl, h0, hb⟩)
      · rename_i hq
        simp only [Option.map_eq_some_iff] at h
        obtain ⟨⟨c, k, r⟩, he, h⟩ := h
        cases h
        exact .inr (.inr ⟨o - 1, c, k, r, l', rfl, rfl, by rw [show 1 + (o - 1) = o by omega]; exact hb, by omega, he⟩)

theorem tup_cell {v : V} (h : (cells v).all cellV = true) : isTup v = false := by
  cases v <;> first | rfl | simp [cells, cellV] at h

structure Fits (fn : Func) (c : Code) (n : Nat) : Prop where
  body : fn.body = some c
  name : (fn.name == "runtime.NumGoroutine") = false
  args : n ≤ fn.ntmps

theorem run_enter {P : Program} {f : FuncId} {fn : Func} {c : Code} {n : Nat} (hf : P.funcs[f]? = some fn) (F : Fits fn c n) (us : Array Value) (w : World) : (callFunc f us).run P w = .ok (.enter f us) w := by
  have := F.name
  simp at this
  simp [callFunc, hf, F.body, this]

def ownN (vs : List V) : Nat := (inst1s 1 0 vs).2.length

theorem enter_rel {P : Program} {G : Ground} {vs : List V} {us : List Value} (ha : ArgsOk w ρ vs us) (hi : Inn w ρ) (hg : G.ok w ρ) {fn : Func} (hn : vs.length ≤ fn.ntmps) :
    Rel G (ownN vs) w (placeOwn ρ 1 1 (inst1s 1 0 vs).2) w (placeOwn ρ 1 1 (inst1s 1 0 vs).2) (enter fn vs).2 { tmps := us.toArray ++ Array.replicate (fn.ntmps - us.toArray.size) undef, defers := [] } := by
  have hp : ∃ p : Nat → Value, ∀ (a : Nat) u, us[a]? = some u → u = p a := ⟨fun a => us.getD a undef, fun a u h => by simp [List.getD_eq_getElem?_getD, h]⟩
  obtain ⟨p, hp⟩ := hp
  have pl := placeAll (N := fun _ _ => True) (w := w) (ρ := ρ) (rt := rt0) (q := 1) (id := 1) (vs := vs) (p := p) (by intro o r h; cases h) hi.inj (by intro o r h; cases h)
    ⟨fun b o l h => ⟨(hi.lab b o l h).1, .inl (hi.lab b o l h).2⟩, rfl, hi.f⟩ (by omega) rfl (by omega) (fun _ _ _ => rfl) (fun _ _ _ _ => trivial) (fun c v hv => by
      obtain ⟨u, hu⟩ : ∃ u, us[c]? = some u := ⟨_, List.getElem?_eq_getElem (by rw [← ha.1]; exact (List.getElem?_eq_some_iff.1 hv).1)⟩
      have := ha.2 c v u hv hu
      rw [hp c u hu] at this
      exact this)
  obtain ⟨s1, s2, s3, s4⟩ := inst1s_spec (vs := vs) (id := 1) (c := 0)
  have e1 : (enter fn vs).2.tm = (inst1s 1 0 vs).1 ++ List.replicate (fn.ntmps - vs.length) .und := rfl
  have e2 : (enter fn vs).2.rt = addRoots rt0 1 (inst1s 1 0 vs).2 := rfl
  have e3 : (enter fn vs).2.nx = 1 + (inst1s 1 0 vs).2.length := rfl
  have hle : ∀ b i l, placeOwn ρ 1 1 (inst1s 1 0 vs).2 b = some (i, l) → i ≤ ownN vs := fun b i l h => by
    rcases placeOwn_inv h with ⟨h1, h2⟩ | ⟨c, k, j, h1, h2, h3⟩
    · rcases (hi.lab b i l h1).2 with h | h
      · omega
      · exact absurd h h2
    · obtain ⟨r, hr⟩ := posR_get h2
      have := (List.getElem?_eq_some_iff.1 hr).1
      unfold ownN
      omega
  refine ⟨?_, ?_, pl.inj, ?_, ?_, ?_, ?_, ?_, Wk.refl, fun b hb _ => ⟨hb, rfl⟩, fun b l hb => ⟨hb, rfl⟩, fun b l h => h, rfl, ?_, fun i b n _ h1 h2 _ => ⟨h1, h2⟩, hle, ?_⟩
  · rw [e1, e2]
    refine ⟨by simp [s1, ha.1], fun i v u hv hu => ?_⟩
    by_cases hi : i < vs.length
    · rw [List.getElem?_append_left (by rw [s1]; exact hi)] at hv
      simp only [Array.getElem?_append, List.size_toArray, ← ha.1, hi, if_true, List.getElem?_toArray] at hu
      rw [hp i u hu]
      exact (pl.val i v hv).1
    · rw [List.getElem?_append_right (by rw [s1]; omega)] at hv
      simp only [Array.getElem?_append, List.size_toArray, ← ha.1, hi, if_false, Array.getElem?_replicate] at hu
      rw [List.getElem?_replicate] at hv
      split at hv <;> cases hv
      split at hu <;> cases hu
      exact Slot.mk1 rfl (.und _)
  · rw [e2]; exact pl.rok
  · rw [e2]; exact pl.rtn
  · rw [e2]; exact pl.lab
  · rw [e2, e3]
    intro o ho
    unfold past at ho
    cases hr : addRoots rt0 1 (inst1s 1 0 vs).2 o with
    | none => rfl
    | some r =>
      rcases pl.nv o r hr with h | ⟨_, h⟩
      · cases h
      · omega
  · rw [e3]; intro o ho; unfold past at ho; omega
  · rw [e1, e2, e3]
    intro i v hv
    by_cases hi : i < vs.length
    · rw [List.getElem?_append_left (by rw [s1]; exact hi)] at hv
      exact (pl.val i v hv).2 _ fun o h1 h2 h3 => by unfold past at h3; omega
    · rw [List.getElem?_append_right (by rw [s1]; omega)] at hv
      rw [List.getElem?_replicate] at hv
      split at hv <;> cases hv
      simp [noNew]
  · exact ⟨hg.1, fun b hb => placeOwn_none (hg.2.1 b hb), hg.2.2⟩
  · rw [e3]; unfold past; unfold ownN at *; intro i h1 h2; omega
end Go.Ln
/- A function's contract out of a run of the interpreter: the end of the call. -/
set_option linter.unusedVariables false
set_option linter.unusedSimpArgs false
set_option linter.unusedSectionVars false
namespace Go.Ln
open Go
variable {w w' : World} {ρ ρ' : Own} {rt rt' : Store}

theorem leave_rel {P : Program} {E : Env} (A : Agree P E) {G : Ground} {vs : List V} {us : List Value} (ha : ArgsOk w ρ vs us) (hi : Inn w ρ) {fn : Func} {own : List Bool} {st : St} {a : Act}
    (R : Rel G (ownN vs) w (placeOwn ρ 1 1 (inst1s 1 0 vs).2) w' ρ' st a) {r : V} {os : List V} (h : finish E fn own (enter fn vs).1 st = some (r, os)) :
    ∃ u, (results fn a.tmps).run P w' = .ok u w' ∧ ∃ ρe, Aft w ρ w' ρe ∧ ResOk w' ρe r u ∧ OutsOk w ρ w' ρe own vs us os := by
  simp only [finish, Option.bind_eq_some_iff, Option.map_eq_some_iff] at h
  obtain ⟨rs, hrs, ⟨l, rt2⟩, hab, h⟩ := h
  cases h
  obtain ⟨p, hrun, hslot⟩ := results_run A R.rok R.inj rfl R.tm hrs
  obtain ⟨s1, s2, s3, s4⟩ := inst1s_spec (vs := vs) (id := 1) (c := 0)
  have hnl : ownN vs < st.nx := Nat.lt_of_not_le fun h => R.nl (ownN vs) (Nat.le_refl _) h
  have hq : st.rt st.nx = none := R.fresh st.nx (Nat.le_refl _)
  have hq0 : st.nx ≠ 0 := by omega
  have hrn : noNews (NewOf (past st.nx) st.rt) rs := noNews_iff.2 fun v hv => by
    obtain ⟨i, hi⟩ := List.mem_iff_getElem?.1 hv
    obtain ⟨hl, hg⟩ := resultsV_get hrs
    have := hg i _ v (List.getElem?_eq_getElem (by have := (List.getElem?_eq_some_iff.1 hi).1; omega)) hi
    revert this
    generalize fn.results.toList[i]'_ = rv
    intro this
    cases rv with
    | tmp t => exact R.tmn t v this
    | cell b t =>
      simp only [result1, Option.bind_eq_some_iff] at this
      obtain ⟨ti, ht, pv, hpv, cs, hc, this⟩ := this
      split at this
      · exact mkVal_nn this (take_nn (from_nn R.rtn (fun o r hr => by
          rintro (h | ⟨r', h, h2⟩)
          · rw [R.fresh o h] at hr; cases hr
          · rw [hr] at h; cases h; omega) (R.tmn b pv hpv) hc))
      · cases this
  obtain ⟨ρ2, ab, hl, hres⟩ := absorbEach_ok (q := st.nx) (i0 := 0) (g := p) (N := NewOf (past st.nx) st.rt) R.rok R.inj R.rtn R.lab (fun i j l _ h => hq0 h) hq0 hq hslot hrn hab
  have hR : (inst1s 1 0 vs).2.length < st.nx := hnl
  have hlow : ∀ {j : Nat} {e : NewR}, (inst1s 1 0 vs).2[j]? = some e → 1 + j ≠ st.nx := fun hj => by
    have := (List.getElem?_eq_some_iff.1 hj).1
    omega
  have K : Keep0 (fun _ _ => True) w' ρ2 rt2 w' (endOwn ρ2 st.nx (inst1s 1 0 vs).2) rt0 := ⟨fun b hb _ => ⟨endOwn_none hb, rfl⟩, fun _ _ _ h _ => absurd trivial h⟩
  refine ⟨_, hrun, endOwn ρ2 st.nx (inst1s 1 0 vs).2, ⟨R.wk, fun b hb hlt => ?_, fun b l hb => ?_, fun b l hb => ?_, ?_, fun b o l hb => ?_⟩, ?_, ?_⟩
  · have h1 := R.fr b (placeOwn_none hb) hlt
    have h2 := ab.keep.k1 b h1.1 (Nat.lt_of_lt_of_le hlt R.wk.size)
    exact ⟨endOwn_none h2.1, h1.2⟩
  · have h1 := R.k0 b l (placeOwn_other hb (by omega))
    have h2 := ab.keep.k0 b l h1.1
    exact ⟨endOwn_far h2.1, h1.2⟩
  · rcases endOwn_inv hb with ⟨_, h1⟩ | ⟨h0, _⟩ | ⟨_, _, _, _, _, h0, _⟩
    · rcases placeOwn_inv (R.f0 b l (ab.f0 b l h1)) with ⟨h2, _⟩ | ⟨_, _, _, _, _, h3⟩
      · exact h2
      · omega
    · cases h0
    · cases h0
  · rintro b b' ⟨n, l⟩ h h'
    rcases endOwn_inv h with ⟨e, h1⟩ | ⟨e, e0, h1⟩ | ⟨j, c, k, r, t, e, rfl, h1, _, hj⟩ <;> rcases endOwn_inv h' with ⟨e', h1'⟩ | ⟨e', e0', h1'⟩ | ⟨j', c', k', r', t', e', e1', h1', _, hj'⟩ <;> (try omega)
    · exact ab.inj b b' _ h1 h1'
    · exact ab.inj b b' _ h1 h1'
    · cases e1'
      have := s4 j j' _ _ hj hj' rfl rfl
      subst this
      exact ab.inj b b' _ h1 h1'
  · rcases endOwn_inv hb with ⟨e, h1⟩ | ⟨e, e0, h1⟩ | ⟨j, c, k, r, t, e, _, h1, _, hj⟩
    · exact ⟨(ab.lab.l b 0 l h1).1, .inl e⟩
    · exact ⟨(ab.lab.l b _ l h1).1, .inr (.inr e)⟩
    · exact ⟨(ab.lab.l b _ t h1).1, .inr (.inl e)⟩
  · have hcell : ∀ (c : Nat) v, l[c]? = some v → Slot w' (endOwn ρ2 st.nx (inst1s 1 0 vs).2) rt0 (fun k => some (2, [(c, k)])) v (p c) ∧ nh v ∧ isTup v = false := by
      intro c v hv
      obtain ⟨y, hy⟩ : ∃ y, rs[c]? = some y := ⟨_, List.getElem?_eq_getElem (by have := (List.getElem?_eq_some_iff.1 hv).1; omega)⟩
      obtain ⟨⟨g, hg, hs⟩, h2, _, _, h5⟩ := hres c v y hv hy
      refine ⟨⟨g, hg, fun k x hx => ?_⟩, h2, tup_cell h5⟩
      have := (hs k x hx).mono0 K (fun l => (2, l.2)) (fun l => l.1 = st.nx) (fun l i k _ => rfl) (fun l i k h => h) (fun b l hl hb => ⟨by
        obtain ⟨lo, ll⟩ := l
        simp only at hl
        subst hl
        exact endOwn_res hb hq0, rfl⟩) (fun l hl => by cases hl; rfl) (nh_noNew (nh_cell h2 hx))
      simpa using this
    rw [← hl]
    by_cases h1 : l.length = 1
    · obtain ⟨v, rfl⟩ : ∃ v, l = [v] := by
        match l, h1 with
        | [v], _ => exact ⟨v, rfl⟩
      have hv := hcell 0 v rfl
      refine ⟨p, by simp [tupOf, hv.2.2], fun c x hx => ?_⟩
      have hc : comps v = [v] := by cases v <;> first | rfl | (simp [isTup] at hv)
      simp only [tupOf, hc] at hx
      exact hcell c x hx
    · have ht : tupOf l = .tup l := by
        match l, h1 with
        | [], _ => rfl
        | _ :: _ :: _, _ => rfl
        | [v], h => exact absurd rfl h
      rw [ht]
      exact ⟨p, by simp [isTup, comps, h1], fun c x hx => hcell c x hx⟩
  · intro a v u x hv hu hx g hug k y z hy hz hno
    obtain ⟨av, hav, rfl⟩ := outs_at hx
    rw [cells_out1, List.getElem?_map] at hy
    obtain ⟨c0, hc0, rfl⟩ := Option.map_eq_some_iff.1 hy
    obtain ⟨y', hy', _, hlen, hcc⟩ := s3 a v hv
    have : y' = av := by
      have : (enter fn vs).1 = (inst1s 1 0 vs).1 := rfl
      rw [this] at hav
      rw [hav] at hy'
      cases hy'; rfl
    subst this
    have hown : ∃ j : Nat, (inst1s 1 0 vs).2[j]? = some (a, k, rootOf z) ∧ c0 = handleOf (1 + j) z ∧ ¬ notOwn z := by
      rcases hcc k z hz with ⟨h1, h2⟩ | ⟨h1, j, h2, h3⟩
      · rw [h2] at hc0
        cases hc0
        exfalso
        rcases outCell_own hno with ⟨o, nv, s, len, r, rfl, _⟩ | ⟨o, nv, s, e, r, rfl, _⟩
        · have := (ha.2 a v u hv hu).2
          have := nh_cell this hz
          simp [nh] at this
        · have := (ha.2 a v u hv hu).2
          have := nh_cell this hz
          simp [nh] at this
      · rw [h3] at hc0
        cases hc0
        exact ⟨j, by simpa using h2, rfl, h1⟩
    obtain ⟨j, hj, rfl, hzo⟩ := hown
    have hjm := (List.getElem?_eq_some_iff.1 hj).1
    obtain ⟨⟨g', hg', hsl⟩, hnz⟩ := ha.2 a v u hv hu
    have hgk : ∀ k x, (cells v)[k]? = some x → g k = g' k := by
      intro k x hx
      rw [hug] at hg'
      unfold pack at hg'
      split at hg'
      · have hk := (List.getElem?_eq_some_iff.1 hx).1
        injection hg' with hg'
        have h1 : (arrOf (cells v).length g)[k]? = some (g k) := arrOf_get hk
        rw [hg', arrOf_get hk] at h1
        exact (Option.some.inj h1).symm
      · rename_i hag
        have hk := (List.getElem?_eq_some_iff.1 hx).1
        rw [cells_one (by simpa using hag)] at hk
        simp at hk
        subst hk
        exact hg'
    have hrz := hsl k z hz
    rw [← hgk k z hz] at hrz
    generalize g k = uv at hrz ⊢
    have hpos : posR (inst1s 1 0 vs).2 a k = some j := by
      obtain ⟨j', h'⟩ := posR_some hj
      obtain ⟨r', h''⟩ := posR_get h'
      rw [h', s4 j' j _ _ h'' hj rfl rfl]
    have hlab : ∀ b t, ρ b = some (1, (a, k) :: t) → placeOwn ρ 1 1 (inst1s 1 0 vs).2 b = some (1 + j, t) := fun b t hb => placeOwn_moved hb hpos
    have hrt2 : ∀ r, rt2 (1 + j) = some r → ∃ r0, st.rt (1 + j) = some r0 ∧ r.nv = r0.nv := fun r hr => by
      obtain ⟨r0, h0, h1, _⟩ := ab.nv (1 + j) r hr
      exact ⟨r0, h0, h1⟩
    have hkeep : ∀ r b n, rt2 (1 + j) = some r → ρ b = some (1, [(a, k)]) → Blk w b n → ρ2 b = some (1 + j, []) ∧ Blk w' b n := fun r b n hr hb hn => by
      obtain ⟨r0, h0, h1⟩ := hrt2 r hr
      have h2 := R.am (1 + j) b n (by omega) (hlab b [] hb) hn (by rw [h0]; rfl)
      have hlv : live rt2 (1 + j) r0.nv [] := by simp [live, look, valid, hr, rowAt]
      exact (ab.keep.k2 (1 + j) r0.nv [] (by
        rintro (h | ⟨r2, h, h3⟩)
        · unfold past at h; omega
        · rw [h0] at h; cases h; omega) hlv).2 b n h2.1 h2.2
    have hmove : ∀ {e x : V} {i kk : Nat} {r : Root} {yv : Value}, rt2 (1 + j) = some r → r.es[i]? = some e → (cells e)[kk]? = some x → RepV w' ρ2 rt2 (some (1 + j, [(i, kk)])) x yv →
        RepV w' (endOwn ρ2 st.nx (inst1s 1 0 vs).2) rt0 (some (Loc.at (1, [(a, k)]) i kk)) x yv := by
      intro e x i kk r yv hr he hx hxv
      have := hxv.mono0 K (fun l => (1, (a, k) :: l.2)) (fun l => l.1 = 1 + j) (fun l i k _ => rfl) (fun l i k h => h) (fun b l hl hb => ⟨by
        obtain ⟨lo, ll⟩ := l
        simp only at hl
        subst hl
        exact endOwn_arg hb (hlow hj) hj, rfl⟩) (fun l hl => by cases hl; rfl) (nh_noNew (nh_cell (nhs_get (ab.rtn _ r hr) he) hx))
      simpa [Loc.at] using this
    rcases own_or z with h | ⟨s, es, rfl⟩ | ⟨e, rfl⟩
    · exact absurd h hzo
    · rcases outCell_own hno with ⟨o, nv, s', len, r, heq, hr, hln, hs', hout⟩ | ⟨o, nv, s', e, r, heq, _⟩
      · simp only [handleOf, V.hs.injEq] at heq
        obtain ⟨rfl, rfl, _, rfl, _, rfl⟩ := heq
        rw [hout]
        refine ⟨by simpa [nh] using ab.rtn _ r hr, ?_, fun b nb hb hnb => (endOwn_arg (hkeep r b nb hr hb hnb).1 (hlow hj) hj)⟩
        · cases hrz with
          | usl0 =>
            have : r.es = [] := List.eq_nil_of_length_eq_zero (by simpa using hln.symm)
            rw [this]
            exact .usl0 _ _ _
          | usl _ _ _ b A c arr T gg hρ hb hl' hA hcap hs hc h =>
            obtain ⟨h1, arr', T', h2, h3⟩ := hkeep r b arr.size hr hρ ⟨arr, T, hb, rfl⟩
            have e1 : endOwn ρ2 st.nx (inst1s 1 0 vs).2 b = some (1, [(a, k)]) := endOwn_arg h1 (hlow hj) hj
            rw [show es.length = r.es.length from hln]
            rcases ab.rok (1 + j) r hr with h0 | ⟨b', arr2, T2, g2, q1, q2, q3, q4, q5⟩
            · rw [h0]
              exact .usl _ _ [] b A c arr' T' (fun _ _ => undef) e1 h2 (by simp) hA (by rw [h3]; exact hcap) (by simp) (by simp) (by simp)
            · have := ab.inj b b' _ h1 q1
              subst this
              rw [h2] at q2
              cases q2
              exact .usl _ _ _ b A c arr' T' g2 e1 h2 (by rw [← hln]; exact hl') hA (by rw [h3]; exact hcap) (by rw [hs']; exact q3) (by rw [hs']; exact q4) (fun i e k' x he hx => hmove hr he hx (q5 i e k' x he hx))
      · simp [handleOf] at heq
    · rcases outCell_own hno with ⟨o, nv, s', len, r, heq, _⟩ | ⟨o, nv, s', e2, r, heq, hr, hes, hs', hce, hout⟩
      · simp [handleOf] at heq
      · simp only [handleOf, V.hp.injEq] at heq
        obtain ⟨rfl, rfl, _, rfl, _, _⟩ := heq
        rw [hout]
        cases hrz with
        | uptr _ _ b arr T gg hρ hb hc h =>
          obtain ⟨h1, arr', T', h2, h3⟩ := hkeep r b arr.size hr hρ ⟨arr, T, hb, rfl⟩
          have e1 : endOwn ρ2 st.nx (inst1s 1 0 vs).2 b = some (1, [(a, k)]) := endOwn_arg h1 (hlow hj) hj
          refine ⟨by have := ab.rtn _ r hr; rw [hes] at this; simpa [nh, nhs] using this, ?_, fun b2 nb hb2 hnb => endOwn_arg (hkeep r b2 nb hr hb2 hnb).1 (hlow hj) hj⟩
          · rcases ab.rok (1 + j) r hr with h0 | ⟨b', arr2, T2, g2, q1, q2, q3, q4, q5⟩
            · rw [hes] at h0; cases h0
            · have := ab.inj b b' _ h1 q1
              subst this
              rw [h2] at q2
              cases q2
              refine .uptr _ _ b arr' T' (g2 0) e1 h2 (fun kk x hx => ?_) (fun kk x hx => ?_)
              · have := q4 0 e2 kk x (by rw [hes]; rfl) hx
                simpa using this
              · exact hmove hr (i := 0) (by rw [hes]; rfl) hx (q5 0 e2 kk x (by rw [hes]; rfl) hx)
end Go.Ln
/- An operation looks at, and turns, the rows alone that its operands lead to. -/
set_option linter.unusedVariables false
set_option linter.unusedSimpArgs false
set_option linter.unusedSectionVars false
namespace Go.Ln
open Go

def Ag (H : Nat → Prop) (rt rt2 : Store) : Prop := ∀ o, H o → rt2 o = rt o
/-- What an operation has turned, at another store. -/
def Lk (H : Nat → Prop) (rt rt1 rt2 rt3 : Store) : Prop := ∀ o, (H o → rt3 o = rt1 o) ∧ (¬ H o → rt3 o = rt2 o ∧ rt1 o = rt o)

variable {H : Nat → Prop} {rt rt1 rt2 rt3 : Store}

theorem Lk.refl (h : Ag H rt rt2) : Lk H rt rt rt2 rt2 := fun o => ⟨h o, fun _ => ⟨rfl, rfl⟩⟩
theorem Lk.ag (h : Lk H rt rt1 rt2 rt3) : Ag H rt1 rt3 := fun o ho => (h o).1 ho
theorem Lk.trans {a b : Store} (h : Lk H rt rt1 rt2 rt3) (h' : Lk H rt1 a rt3 b) : Lk H rt a rt2 b :=
  fun o => ⟨fun ho => (h' o).1 ho, fun ho => ⟨((h' o).2 ho).1.trans ((h o).2 ho).1, ((h' o).2 ho).2.trans ((h o).2 ho).2⟩⟩
theorem Lk.upd {o : Nat} {r : Option Root} (ho : H o) (h : Lk H rt rt1 rt2 rt3) : Lk H rt (upd rt1 o r) rt2 (upd rt3 o r) := fun x => by
  by_cases hx : x = o
  · subst hx
    exact ⟨fun _ => by simp [Ln.upd], fun h => absurd ho h⟩
  · simp only [Ln.upd, if_neg hx]
    exact h x

theorem valid_ag (h : Ag H rt rt2) {o nv : Nat} {p} (ho : H o) : valid rt2 o nv p = valid rt o nv p := by simp [valid, h o ho]
theorem look_ag (h : Ag H rt rt2) {o nv : Nat} {p} (ho : H o) : look rt2 o nv p = look rt o nv p := by simp [look, valid_ag h ho]
theorem from_ag (h : Ag H rt rt2) {v : V} (hv : ∀ o ∈ ids v, H o) : from_ rt2 v = from_ rt v := by
  cases v with
  | hp o nv p s i k => simp [from_, valid_ag h (hv o (by simp [ids]))]
  | _ => rfl
theorem alive_ag (h : Ag H rt rt2) {v : V} (hv : ∀ o ∈ ids v, H o) : alive rt2 v = alive rt v := by
  cases v with
  | hp o nv p s i k => simp [alive, look_ag h (hv o (by simp [ids]))]
  | hs o nv p s i k => simp [alive, look_ag h (hv o (by simp [ids]))]
  | _ => rfl
theorem share_ag (h : Ag H rt rt2) {v : V} (hv : ∀ o ∈ ids v, H o) : share rt2 v = share rt v := by
  cases v with
  | hp o nv p s i k => simp [share, look_ag h (hv o (by simp [ids]))]
  | hs o nv p s i k => simp [share, look_ag h (hv o (by simp [ids]))]
  | _ => rfl
theorem convV_ag {E : Env} {t t' : TypeId} (h : Ag H rt rt2) {v : V} (hv : ∀ o ∈ ids v, H o) : convV E rt2 t t' v = convV E rt t t' v := by
  have : rowV rt2 v = rowV rt v := by
    cases v with
    | hs o nv p s i k => simp [rowV, look_ag h (hv o (by simp [ids]))]
    | _ => rfl
  unfold convV
  split <;> simp_all
theorem idss_mem {o : Nat} : ∀ {vs : List V}, o ∈ idss vs ↔ ∃ v ∈ vs, o ∈ ids v
  | [] => by simp [idss]
  | v :: vs => by simp [idss, @idss_mem o vs]
theorem shares_ag (h : Ag H rt rt2) : ∀ {vs : List V}, (∀ o ∈ idss vs, H o) → shares rt2 vs = shares rt vs
  | [], _ => rfl
  | v :: vs, hv => by
    simp only [idss, List.mem_append] at hv
    simp only [shares, share_ag h fun o ho => hv o (.inl ho), shares_ag h fun o ho => hv o (.inr ho)]
theorem share1_ag (h : Ag H rt rt2) {v : V} (hv : ∀ o ∈ ids v, H o) : share1 rt2 v = share1 rt v := by
  cases v <;> first | exact share_ag h hv | (simp only [share1]; rw [shares_ag h (by simpa [ids] using hv)])
theorem handC_ag (h : Ag H rt rt2) {v : V} (hv : ∀ o ∈ ids v, H o) : handC rt2 v = handC rt v := by
  cases v with
  | hp o nv p s i k => simp [handC, valid_ag h (hv o (by simp [ids]))]
  | hs o nv p s i k => simp [handC, valid_ag h (hv o (by simp [ids]))]
  | _ => rfl
theorem handCs_ag (h : Ag H rt rt2) : ∀ {vs : List V}, (∀ o ∈ idss vs, H o) → handCs rt2 vs = handCs rt vs
  | [], _ => rfl
  | v :: vs, hv => by
    simp only [idss, List.mem_append] at hv
    simp only [handCs, handC_ag h fun o ho => hv o (.inl ho), handCs_ag h fun o ho => hv o (.inr ho)]
theorem hand_ag (h : Ag H rt rt2) {v : V} (hv : ∀ o ∈ ids v, H o) : hand rt2 v = hand rt v := by
  cases v <;> first | exact handC_ag h hv | (simp only [hand]; rw [handCs_ag h (by simpa [ids] using hv)])
theorem argsV_ag (h : Ag H rt rt2) : ∀ {own : List Bool} {vs : List V}, (∀ o ∈ idss vs, H o) → argsV rt2 own vs = argsV rt own vs
  | own, [], _ => by cases own <;> rfl
  | [], v :: vs, hv => by
    simp only [idss, List.mem_append] at hv
    simp only [argsV, share1_ag h fun o ho => hv o (.inl ho), argsV_ag h (own := []) fun o ho => hv o (.inr ho)]
  | true :: own, v :: vs, hv => by
    simp only [idss, List.mem_append] at hv
    simp only [argsV, hand_ag h fun o ho => hv o (.inl ho), argsV_ag h (own := own) fun o ho => hv o (.inr ho)]
  | false :: own, v :: vs, hv => by
    simp only [idss, List.mem_append] at hv
    simp only [argsV, share1_ag h fun o ho => hv o (.inl ho), argsV_ag h (own := own) fun o ho => hv o (.inr ho)]

theorem takeOut_lk (h : Ag H rt rt2) {o : Nat} (ho : H o) {r : Root} {p} (e : takeOut rt o r p = some rt1) : ∃ rt3, takeOut rt2 o r p = some rt3 ∧ Lk H rt rt1 rt2 rt3 := by
  unfold takeOut at e ⊢
  split at e
  · cases e
    exact ⟨_, rfl, (Lk.refl h).upd ho⟩
  · simp only [Option.bind_eq_some_iff, Option.map_eq_some_iff] at e
    obtain ⟨y, hy, z, hz, es, hes, rfl⟩ := e
    exact ⟨_, by simp [hy, hz, hes], (Lk.refl h).upd ho⟩

theorem absorbCell_lk (h : Ag H rt rt2) {v x : V} (hv : ∀ o ∈ ids v, H o) (e : absorbCell rt v = some (x, rt1)) : ∃ rt3, absorbCell rt2 v = some (x, rt3) ∧ Lk H rt rt1 rt2 rt3 := by
  have pl : ∀ {w : V}, (if plainV w then some (w, rt) else none) = some (x, rt1) → ∃ rt3, (if plainV w then some (w, rt2) else none) = some (x, rt3) ∧ Lk H rt rt1 rt2 rt3 := by
    intro w e
    split at e
    · rename_i hp
      cases e
      exact ⟨rt2, by simp [hp], Lk.refl h⟩
    · cases e
  cases v with
  | hp o nv p s i k =>
    have ho : H o := hv o (by simp [ids])
    simp only [absorbCell, Option.bind_eq_some_iff] at e
    obtain ⟨r, hr, y, hy, e⟩ := e
    split at e
    · rename_i z hz
      split at e
      · rename_i hc
        simp only [Option.map_eq_some_iff, Prod.mk.injEq] at e
        obtain ⟨rt', ht, rfl, rfl⟩ := e
        obtain ⟨rt3, h3, h4⟩ := takeOut_lk h ho ht
        exact ⟨rt3, by simp [absorbCell, valid_ag h ho, hr, hy, hz, hc, h3], h4⟩
      · cases e
    · cases e
  | hs o nv p s off len =>
    have ho : H o := hv o (by simp [ids])
    simp only [absorbCell, Option.bind_eq_some_iff] at e
    obtain ⟨r, hr, y, hy, e⟩ := e
    split at e
    · rename_i hc
      simp only [Option.map_eq_some_iff, Prod.mk.injEq] at e
      obtain ⟨rt', ht, rfl, rfl⟩ := e
      obtain ⟨rt3, h3, h4⟩ := takeOut_lk h ho ht
      refine ⟨rt3, ?_, h4⟩
      simp only [absorbCell, valid_ag h ho, hr, hy, Option.bind_some]
      rw [if_pos hc, h3]
      rfl
    · cases e
  | _ => (simp only [absorbCell] at e ⊢; exact pl e)
theorem absorbs_lk : ∀ {vs xs : List V} {rt rt1 rt2 : Store}, Ag H rt rt2 → (∀ o ∈ idss vs, H o) → absorbs rt vs = some (xs, rt1) → ∃ rt3, absorbs rt2 vs = some (xs, rt3) ∧ Lk H rt rt1 rt2 rt3
  | [], xs, rt, rt1, rt2, h, _, e => by
    simp only [absorbs, Option.some.injEq, Prod.mk.injEq] at e
    obtain ⟨rfl, rfl⟩ := e
    exact ⟨rt2, rfl, Lk.refl h⟩
  | v :: vs, xs, rt, rt1, rt2, h, hv, e => by
    simp only [idss, List.mem_append] at hv
    simp only [absorbs, Option.bind_eq_some_iff, Option.map_eq_some_iff, Prod.mk.injEq] at e
    obtain ⟨⟨x, ra⟩, hx, ⟨ys, rb⟩, hy, rfl, rfl⟩ := e
    obtain ⟨r3, h3, k3⟩ := absorbCell_lk h (fun o ho => hv o (.inl ho)) hx
    obtain ⟨r4, h4, k4⟩ := absorbs_lk k3.ag (fun o ho => hv o (.inr ho)) hy
    exact ⟨r4, by simp only [absorbs, h3, Option.bind_some]; rw [h4]; rfl, k3.trans k4⟩
theorem absorb_lk (h : Ag H rt rt2) {v x : V} (hv : ∀ o ∈ ids v, H o) (e : absorb rt v = some (x, rt1)) : ∃ rt3, absorb rt2 v = some (x, rt3) ∧ Lk H rt rt1 rt2 rt3 := by
  cases v with
  | agg cs =>
    simp only [absorb, Option.map_eq_some_iff, Prod.mk.injEq] at e
    obtain ⟨⟨xs, r1⟩, hx, rfl, rfl⟩ := e
    obtain ⟨r3, h3, k3⟩ := absorbs_lk h (by simpa [ids] using hv) hx
    exact ⟨r3, by simp [absorb, h3], k3⟩
  | _ => exact absorbCell_lk h hv e
theorem absorbEach_lk : ∀ {vs xs : List V} {rt rt1 rt2 : Store}, Ag H rt rt2 → (∀ o ∈ idss vs, H o) → absorbEach rt vs = some (xs, rt1) → ∃ rt3, absorbEach rt2 vs = some (xs, rt3) ∧ Lk H rt rt1 rt2 rt3
  | [], xs, rt, rt1, rt2, h, _, e => by
    simp only [absorbEach, Option.some.injEq, Prod.mk.injEq] at e
    obtain ⟨rfl, rfl⟩ := e
    exact ⟨rt2, rfl, Lk.refl h⟩
  | v :: vs, xs, rt, rt1, rt2, h, hv, e => by
    simp only [idss, List.mem_append] at hv
    simp only [absorbEach, Option.bind_eq_some_iff, Option.map_eq_some_iff, Prod.mk.injEq] at e
    obtain ⟨⟨x, ra⟩, hx, ⟨ys, rb⟩, hy, rfl, rfl⟩ := e
    obtain ⟨r3, h3, k3⟩ := absorb_lk h (fun o ho => hv o (.inl ho)) hx
    obtain ⟨r4, h4, k4⟩ := absorbEach_lk k3.ag (fun o ho => hv o (.inr ho)) hy
    exact ⟨r4, by simp only [absorbEach, h3, Option.bind_some]; rw [h4]; rfl, k3.trans k4⟩

theorem takeEls_lk (h : Ag H rt rt2) {v : V} {xs : List V} (hv : ∀ o ∈ ids v, H o) (e : takeEls rt v = some (xs, rt1)) : ∃ rt3, takeEls rt2 v = some (xs, rt3) ∧ Lk H rt rt1 rt2 rt3 := by
  cases v with
  | isl n es =>
    simp only [takeEls, Option.some.injEq, Prod.mk.injEq] at e
    obtain ⟨rfl, rfl⟩ := e
    exact ⟨rt2, rfl, Lk.refl h⟩
  | hs o nv p s off len =>
    have ho : H o := hv o (by simp [ids])
    simp only [takeEls, Option.bind_eq_some_iff] at e
    obtain ⟨y, hy, e⟩ := e
    simp only [takeEls, look_ag h ho, hy, Option.bind_some]
    split at e
    · rename_i hc
      rw [if_pos hc]
      split at e
      · cases e
      · rename_i hs
        rw [if_neg hs]
        split at e
        · rename_i hf
          rw [if_pos hf]
          cases e
          exact ⟨rt2, rfl, Lk.refl h⟩
        · rename_i hf
          rw [if_neg hf]
          split at e
          · rename_i hq
            rw [if_pos hq]
            cases e
            exact ⟨_, rfl, (Lk.refl h).upd ho⟩
          · cases e
    · cases e
  | _ => simp [takeEls] at e
end Go.Ln
/- An operation looks at, and turns, the rows alone that its operands lead to: calls, stores, all. -/
set_option linter.unusedVariables false
set_option linter.unusedSimpArgs false
set_option linter.unusedSectionVars false
namespace Go.Ln
open Go
variable {H : Nat → Prop} {rt rt1 rt2 rt3 : Store}

theorem lentOf_sub {o : Nat} : ∀ {own : List Bool} {vs : List V}, o ∈ lentOf own vs → o ∈ idss vs
  | own, [], h => by cases own with
    | nil => simp [lentOf] at h
    | cons b _ => cases b <;> simp [lentOf] at h
  | [], v :: vs, h => by
    simp only [lentOf, List.mem_append] at h
    simp only [idss, List.mem_append]
    exact h.imp id lentOf_sub
  | true :: own, v :: vs, h => by
    simp only [lentOf] at h
    simp only [idss, List.mem_append]
    exact .inr (lentOf_sub h)
  | false :: own, v :: vs, h => by
    simp only [lentOf, List.mem_append] at h
    simp only [idss, List.mem_append]
    exact h.imp id lentOf_sub
theorem hid_ids {v x : V} {k o : Nat} (hx : (cells v)[k]? = some x) (h : hid x = some o) : o ∈ ids v := by
  have hxi : o ∈ ids x := by cases x <;> simp [hid] at h <;> simp [ids, h]
  by_cases ha : isAggV v = true
  · cases v <;> simp [isAggV] at ha
    simp only [ids]
    exact idss_mem.2 ⟨x, List.mem_of_getElem? hx, hxi⟩
  · rw [cells_one (by simpa using ha)] at hx
    cases k <;> simp at hx
    subst hx
    exact hxi
theorem given_sub {own : List Bool} {vs : List V} {o : Nat} {x : Path × Nat × Nat} (h : lookG (givenOf 0 own vs) o = some x) : o ∈ idss vs := by
  obtain ⟨a, v, k, y, h1, h2, h3, h4, h5⟩ := givenOf_mem.1 (lookG_mem h)
  exact idss_mem.2 ⟨v, List.mem_of_getElem? h2, hid_ids h3 h4⟩

theorem callV_lk {E : Env} (h : Ag H rt rt2) {id : Nat} (hb : ∀ o, id ≤ o → o < id + room → H o) {f : FuncId} {args : List V} {v : V} (hv : ∀ o ∈ idss args, H o) (e : callV E rt id f args = some (v, rt1)) : ∃ rt3, callV E rt2 id f args = some (v, rt3) ∧ Lk H rt rt1 rt2 rt3 := by
  simp only [callV, Option.bind_eq_some_iff] at e
  obtain ⟨en, hen, e⟩ := e
  split at e
  · rename_i hchk
    simp only [Option.bind_eq_some_iff] at e
    obtain ⟨xs, hxs, ⟨r, os⟩, hF, e⟩ := e
    simp only at e
    split at e
    · rename_i hroom
      simp only [Option.some.injEq, Prod.mk.injEq] at e
      obtain ⟨rfl, rfl⟩ := e
      refine ⟨addRoots (backSt rt2 (givenOf 0 en.own args) en.own os (if (hasImm r || hasImms os) = true then lentOf en.own args else [])) id (inst1s id 0 (comps r)).2, ?_, ?_⟩
      · simp only [callV, hen, Option.bind_some]
        rw [if_pos hchk, argsV_ag h hv, hxs]
        simp only [Option.bind_some, hF]
        rw [if_pos hroom]
      · have hd : ∀ o, o ∈ (if (hasImm r || hasImms os) = true then lentOf en.own args else []) → H o := fun o ho => by
          split at ho
          · exact hv o (lentOf_sub ho)
          · cases ho
        generalize (if (hasImm r || hasImms os) = true then lentOf en.own args else []) = dead at hd
        intro o
        by_cases hin : id ≤ o ∧ o < id + (inst1s id 0 (comps r)).2.length
        · have ho : H o := hb o hin.1 (by omega)
          refine ⟨fun _ => ?_, fun hn => absurd ho hn⟩
          simp only [addRoots]
          rw [if_pos hin, if_pos hin]
        · simp only [addRoots]
          rw [if_neg hin, if_neg hin]
          simp only [backSt]
          cases hg : lookG (givenOf 0 en.own args) o with
          | some x =>
            have ho : H o := hv o (given_sub hg)
            refine ⟨fun _ => by simp only [h o ho], fun hn => absurd ho hn⟩
          | none =>
            by_cases hc : dead.contains o = true
            · simp only [hc, if_true]
              refine ⟨fun _ => trivial, fun hn => absurd (hd o (by simpa using hc)) hn⟩
            · simp only [hc]
              exact ⟨fun ho => by simpa using h o ho, fun _ => ⟨rfl, rfl⟩⟩
    · cases e
  · cases e

theorem clearV_lk {E : Env} (h : Ag H rt rt2) {t : TypeId} {x : V} (hx : ∀ o ∈ ids x, H o) (e : clearV E rt t x = some rt1) : ∃ rt3, clearV E rt2 t x = some rt3 ∧ Lk H rt rt1 rt2 rt3 := by
  unfold clearV at e ⊢
  split at e
  · split at e
    · rename_i hs
      cases e
      exact ⟨rt2, by simp [hs], Lk.refl h⟩
    · cases e
  · rename_i o nv s off len
    have ho : H o := hx o (by simp [ids])
    split at e
    · simp only [Option.bind_eq_some_iff] at e
      obtain ⟨ei, hei, z, hz, r, hr, e⟩ := e
      split at e
      · rename_i hc
        cases e
        exact ⟨_, by simp only [hei, hz, h o ho, hr, Option.bind_some]; rw [if_pos hc], (Lk.refl h).upd ho⟩
      · cases e
    · cases e
  · cases e

theorem appendV_lk {E : Env} (h : Ag H rt rt2) {id : Nat} (hb : H id) {t : TypeId} {d x v : V} (hd : ∀ o ∈ ids d, H o) (hx : ∀ o ∈ ids x, H o) (e : appendV E rt id t d x = some (v, rt1)) : ∃ rt3, appendV E rt2 id t d x = some (v, rt3) ∧ Lk H rt rt1 rt2 rt3 := by
  unfold appendV at e ⊢
  split at e
  · simp only [Option.bind_eq_some_iff] at e
    obtain ⟨ei, hei, ⟨es, ra⟩, hes, e⟩ := e
    obtain ⟨r3, h3, k3⟩ := takeEls_lk h hx hes
    simp only [hei, Option.bind_some, h3]
    split at e
    · rename_i hall
      rw [if_pos hall]
      split at e
      · split at e
        · rename_i hl
          rw [if_pos hl]
          simp only [Option.some.injEq, Prod.mk.injEq] at e
          obtain ⟨rfl, rfl⟩ := e
          exact ⟨_, rfl, k3.upd hb⟩
        · cases e
      · rename_i o nv p s off len
        simp only [Option.bind_eq_some_iff] at e
        obtain ⟨z, hz, e⟩ := e
        have ho : H o := hd o (by simp [ids])
        simp only [look_ag k3.ag ho, hz, Option.bind_some]
        split at e
        · rename_i hc
          rw [if_pos hc]
          simp only [Option.map_eq_some_iff, Prod.mk.injEq] at e
          obtain ⟨⟨u1, u2⟩, hu, rfl, rfl⟩ := e
          obtain ⟨r4, h4, k4⟩ := absorbCell_lk k3.ag hd hu
          exact ⟨_, by rw [h4]; rfl, (k3.trans k4).upd hb⟩
        · cases e
      · cases e
    · cases e
  · cases e

theorem storeV_lk {E : Env} (h : Ag H rt rt2) {t : TypeId} {p x : V} (hp : ∀ o ∈ ids p, H o) (hx : ∀ o ∈ ids x, H o) (e : storeV E rt t p x = some rt1) : ∃ rt3, storeV E rt2 t p x = some rt3 ∧ Lk H rt rt1 rt2 rt3 := by
  unfold storeV at e ⊢
  split at e
  · rename_i o nv path s i k
    simp only [Option.bind_eq_some_iff] at e
    obtain ⟨ti, hti, ⟨y, ra⟩, hy, e⟩ := e
    obtain ⟨r3, h3, k3⟩ := absorb_lk h hx hy
    have ho : H o := hp o (by simp [ids])
    simp only [hti, Option.bind_some, h3]
    split at e
    · rename_i hc
      rw [if_pos hc]
      simp only [Option.bind_eq_some_iff] at e
      obtain ⟨r, hr, z, hz, e⟩ := e
      simp only [valid_ag k3.ag ho, hr, Option.bind_some, hz]
      split at e
      · rename_i hs
        rw [if_pos hs]
        simp only [Option.bind_eq_some_iff] at e
        obtain ⟨w, hw, e⟩ := e
        simp only [hw, Option.bind_some]
        split at e
        · rename_i hk
          rw [if_pos hk]
          simp only [Option.map_eq_some_iff] at e
          obtain ⟨es, hes, rfl⟩ := e
          exact ⟨_, by rw [hes]; rfl, k3.upd ho⟩
        · cases e
      · cases e
    · cases e
  · cases e

/-- The places that an operation's operands name. -/
def opIds (st : St) (op : Op) : List Nat := (op.operands.toList.filterMap (ev st)).flatMap ids

theorem opIds_mem {st : St} {op : Op} {x : Operand} {v : V} {o : Nat} (hx : x ∈ op.operands.toList) (hv : ev st x = some v) (ho : o ∈ ids v) : o ∈ opIds st op :=
  List.mem_flatMap.2 ⟨v, List.mem_filterMap.2 ⟨x, hx, hv⟩, ho⟩

/-- Operations that do not look at the store. -/
def noRt : Op → Bool
  | .move _ | .assign _ | .pick .. | .build .. | .binOp .. | .unOp ..  | .makeInterface .. | .makeFunc .. | .field .. | .index .. | .extract .. | .alloc _ | .makeSlice .. => true
  | _ => false
def opR (st : St) (op : Op) : List Nat := if noRt op then [] else opIds st op

theorem evs_ag {st st2 : St} : ∀ {xs : List Operand}, (∀ x ∈ xs, ev st2 x = ev st x) → evs st2 xs = evs st xs
  | [], _ => rfl
  | x :: xs, h => by
    simp only [evs, h x (by simp), evs_ag fun y hy => h y (List.mem_cons_of_mem _ hy)]
theorem evParts_ag {st st2 : St} : ∀ {xs : List (Nat × Operand)}, (∀ x ∈ xs, ev st2 x.2 = ev st x.2) → evParts st2 xs = evParts st xs
  | [], _ => rfl
  | (i, x) :: xs, h => by
    simp only [evParts, h (i, x) (by simp), evParts_ag fun y hy => h y (List.mem_cons_of_mem _ hy)]
theorem evs_mem {st : St} : ∀ {xs : List Operand} {vs : List V} {v : V}, evs st xs = some vs → v ∈ vs → ∃ x ∈ xs, ev st x = some v
  | [], vs, v, h, hv => by simp [evs] at h; subst h; cases hv
  | x :: xs, vs, v, h, hv => by
    simp only [evs, Option.bind_eq_some_iff, Option.map_eq_some_iff] at h
    obtain ⟨u, hu, us, hus, rfl⟩ := h
    rcases List.mem_cons.1 hv with rfl | hv
    · exact ⟨x, by simp, hu⟩
    · obtain ⟨y, hy, h⟩ := evs_mem hus hv
      exact ⟨y, List.mem_cons_of_mem _ hy, h⟩
theorem evParts_mem {st : St} : ∀ {xs : List (Nat × Operand)} {vs : List (Nat × V)} {v : Nat × V}, evParts st xs = some vs → v ∈ vs → ∃ x ∈ xs, ev st x.2 = some v.2
  | [], vs, v, h, hv => by simp [evParts] at h; subst h; cases hv
  | (i, x) :: xs, vs, v, h, hv => by
    simp only [evParts, Option.bind_eq_some_iff, Option.map_eq_some_iff] at h
    obtain ⟨u, hu, us, hus, rfl⟩ := h
    rcases List.mem_cons.1 hv with rfl | hv
    · exact ⟨(i, x), by simp, hu⟩
    · obtain ⟨y, hy, h⟩ := evParts_mem hus hv
      exact ⟨y, List.mem_cons_of_mem _ hy, h⟩
theorem evOpt_ag {st st2 : St} {x : Option Operand} (h : ∀ y, x = some y → ev st2 y = ev st y) : evOpt st2 x = evOpt st x := by
  cases x with
  | none => rfl
  | some y => simp only [evOpt, h y rfl]
theorem putEls_mem {sz : Nat} {a : Bool} : ∀ {ps : List (Nat × V)} {es es' : List V} {v : V}, putEls sz a es ps = some es' → v ∈ es' → v ∈ es ∨ ∃ p ∈ ps, p.2 = v
  | [], es, es', v, h, hv => by simp [putEls] at h; subst h; exact .inl hv
  | (i, x) :: ps, es, es', v, h, hv => by
    simp only [putEls] at h
    split at h
    · rcases putEls_mem h hv with h1 | ⟨p, hp, rfl⟩
      · rcases List.mem_or_eq_of_mem_set h1 with h2 | h2
        · exact .inl h2
        · exact .inr ⟨(i, x), by simp, h2.symm⟩
      · exact .inr ⟨p, List.mem_cons_of_mem _ hp, rfl⟩
    · cases h
end Go.Ln
/- An operation looks at, and turns, the rows alone that its operands lead to: whichever it is. -/
set_option linter.unusedVariables false
set_option linter.unusedSimpArgs false
set_option linter.unusedSectionVars false
namespace Go.Ln
open Go
variable {H : Nat → Prop} {rt rt1 rt2 rt3 : Store}

theorem ids_const {c : Value} {v : V} (h : zeroV c = some v) : ids v = [] := by
  have one : ∀ {c : Value} {v : V}, ofConst c = some v → ids v = [] := by
    intro c v h
    unfold ofConst at h
    split at h <;> cases h <;> rfl
  unfold zeroV at h
  split at h
  · simp only [Option.map_eq_some_iff] at h
    obtain ⟨vs, hvs, rfl⟩ := h
    simp only [ids]
    rename_i cs
    generalize cs.toList = l at hvs
    induction l generalizing vs with
    | nil => simp [ofConsts] at hvs; subst hvs; rfl
    | cons x l ih =>
      simp only [ofConsts, Option.bind_eq_some_iff, Option.map_eq_some_iff] at hvs
      obtain ⟨y, hy, ys, hys, rfl⟩ := hvs
      simp [idss, one hy, ih ys hys]
  · exact one h

theorem opV_lk {E : Env} {id : Nat} {st st2 : St} {op : Op} {v : V} (hb : ∀ o, id ≤ o → o < id + room → H o) (ho : ∀ o ∈ opR st op, H o) (hx : ∀ x ∈ op.operands.toList, ev st2 x = ev st x) (h : Ag H st.rt st2.rt)
    (e : opV E id st op = some (v, rt1)) : ∃ rt3, opV E id st2 op = some (v, rt3) ∧ Lk H st.rt rt1 st2.rt rt3 := by
  have hid : H id := hb id (Nat.le_refl _) (by unfold room; omega)
  have pure : st.rt = rt1 → opV E id st2 op = some (v, st2.rt) → ∃ rt3, opV E id st2 op = some (v, rt3) ∧ Lk H st.rt rt1 st2.rt rt3 := by
    rintro rfl h2
    exact ⟨_, h2, Lk.refl h⟩
  have hv : noRt op = false → ∀ {x : Operand} {u : V}, x ∈ op.operands.toList → ev st x = some u → ∀ o ∈ ids u, H o := fun hn _ _ hm hu o hi => ho o (by unfold opR; rw [hn]; exact opIds_mem hm hu hi)
  cases op with
  | move x =>
    simp only [opV, Option.map_eq_some_iff, Prod.mk.injEq] at e
    obtain ⟨u, hu, rfl, rfl⟩ := e
    exact pure rfl (by simp [opV, hx x (by simp [Op.operands]), hu])
  | assign x =>
    simp only [opV, Option.map_eq_some_iff, Prod.mk.injEq] at e
    obtain ⟨u, hu, rfl, rfl⟩ := e
    exact pure rfl (by simp [opV, hx x (by simp [Op.operands]), hu])
  | pick c a b =>
    simp only [opV, Option.map_eq_some_iff, Option.bind_eq_some_iff, Prod.mk.injEq] at e
    obtain ⟨u, hu, y, hy, rfl, rfl⟩ := e
    refine pure rfl ?_
    simp only [opV, hx c (by simp [Op.operands]), hx a (by simp [Op.operands]), hx b (by simp [Op.operands]), hu, Option.bind_some]
    rw [hy]; rfl
  | alloc t =>
    simp only [opV, Option.map_eq_some_iff, Option.bind_eq_some_iff, Prod.mk.injEq] at e
    obtain ⟨ti, hti, z, hz, rfl, rfl⟩ := e
    exact ⟨_, by simp [opV, hti, hz], (Lk.refl h).upd hid⟩
  | box t x =>
    simp only [opV, Option.map_eq_some_iff, Option.bind_eq_some_iff, Prod.mk.injEq] at e
    obtain ⟨u, hu, ⟨y, ra⟩, hy, rfl, rfl⟩ := e
    obtain ⟨r3, h3, k3⟩ := absorb_lk h (hv rfl (by simp [Op.operands]) hu) hy
    exact ⟨_, by simp [opV, hx x (by simp [Op.operands]), hu, h3], k3.upd hid⟩
  | build t ps =>
    simp only [opV, Option.map_eq_some_iff, Option.bind_eq_some_iff, Prod.mk.injEq] at e
    obtain ⟨u, hu, y, hy, rfl, rfl⟩ := e
    exact pure rfl (by simp [opV, evParts_ag (xs := ps.toList) fun x hm => hx x.2 (by simp [Op.operands]; exact ⟨x.1, by simpa using hm⟩), hu, hy])
  | buildSlice t n ps =>
    simp only [opV, Option.bind_eq_some_iff] at e
    obtain ⟨pv, hpv, e⟩ := e
    have hpv2 : evParts st2 ps.toList = some pv := by rw [evParts_ag (xs := ps.toList) fun x hm => hx x.2 (by simp [Op.operands]; exact ⟨x.1, by simpa using hm⟩), hpv]
    split at e
    · rename_i el sz bt zv htt
      simp only [Option.bind_eq_some_iff] at e
      obtain ⟨ei, hei, z, hz, e⟩ := e
      split at e
      · rename_i hc
        simp only [Option.bind_eq_some_iff, Option.map_eq_some_iff, Prod.mk.injEq] at e
        obtain ⟨es, hes, ⟨ys, ra⟩, hys, rfl, rfl⟩ := e
        obtain ⟨r3, h3, k3⟩ := absorbEach_lk h (fun o hm => by
          obtain ⟨x, hxm, hi⟩ := idss_mem.1 hm
          rcases putEls_mem hes hxm with h1 | ⟨p, hp, rfl⟩
          · rw [List.eq_of_mem_replicate h1, ids_const hz] at hi
            cases hi
          · obtain ⟨q, hq, hqe⟩ := evParts_mem hpv hp
            exact hv rfl (x := q.2) (by simp [Op.operands]; exact ⟨q.1, by simpa using hq⟩) hqe o hi) hys
        refine ⟨_, ?_, k3.upd hid⟩
        simp only [opV, hpv2, Option.bind_some, htt, hei, hz]
        rw [if_pos hc, hes]
        simp only [Option.bind_some, h3]
        rfl
      · cases e
    · cases e
  | load t p =>
    simp only [opV, Option.bind_eq_some_iff] at e
    obtain ⟨ti, hti, pv, hp, cs, hc, e⟩ := e
    split at e
    · rename_i hcc
      simp only [Option.map_eq_some_iff, Prod.mk.injEq] at e
      obtain ⟨y, hy, rfl, rfl⟩ := e
      refine pure rfl ?_
      simp only [opV, hti, Option.bind_some, hx p (by simp [Op.operands]), hp, from_ag h (hv rfl (by simp [Op.operands]) hp), hc]
      rw [if_pos hcc, hy]; rfl
    · cases e
  | store t p x =>
    simp only [opV, Option.bind_eq_some_iff, Option.map_eq_some_iff, Prod.mk.injEq] at e
    obtain ⟨pv, hp, xv, hxv, ra, hs, rfl, rfl⟩ := e
    obtain ⟨r3, h3, k3⟩ := storeV_lk h (hv rfl (by simp [Op.operands]) hp) (hv rfl (by simp [Op.operands]) hxv) hs
    exact ⟨r3, by simp [opV, hx p (by simp [Op.operands]), hx x (by simp [Op.operands]), hp, hxv, h3], k3⟩
  | nilCheck x =>
    simp only [opV, Option.bind_eq_some_iff] at e
    obtain ⟨u, hu, e⟩ := e
    have hi := hv rfl (x := x) (by simp [Op.operands]) hu
    split at e
    · rename_i o nv p s i k
      split at e
      · rename_i hc
        cases e
        refine pure rfl ?_
        simp only [opV, hx x (by simp [Op.operands]), hu, Option.bind_some, look_ag h (hi o (by simp [ids]))]
        rw [if_pos hc]
      · cases e
    · cases e
      exact pure rfl (by simp [opV, hx x (by simp [Op.operands]), hu])
    · cases e
  | binOp op t x y t' =>
    simp only [opV, Option.bind_eq_some_iff, Option.map_eq_some_iff, Prod.mk.injEq] at e
    obtain ⟨a, ha, b, hb', u, hu, rfl, rfl⟩ := e
    exact pure rfl (by simp [opV, hx x (by simp [Op.operands]), hx y (by simp [Op.operands]), ha, hb', hu])
  | unOp op t x =>
    simp only [opV, Option.bind_eq_some_iff, Option.map_eq_some_iff, Prod.mk.injEq] at e
    obtain ⟨a, ha, u, hu, rfl, rfl⟩ := e
    exact pure rfl (by simp [opV, hx x (by simp [Op.operands]), ha, hu])
  | convert s d x =>
    simp only [opV, Option.bind_eq_some_iff, Option.map_eq_some_iff, Prod.mk.injEq] at e
    obtain ⟨a, ha, u, hu, rfl, rfl⟩ := e
    refine pure rfl ?_
    have : convV E st2.rt s d a = convV E st.rt s d a := convV_ag h fun o ho => hv rfl (by simp [Op.operands]) ha o ho
    simp [opV, hx x (by simp [Op.operands]), ha, this, hu]
  | makeInterface t x =>
    simp only [opV, Option.bind_eq_some_iff] at e
    obtain ⟨a, ha, e⟩ := e
    split at e
    · rename_i hc
      cases hd : E.desc t with
      | none => simp [hd] at e
      | some d =>
        cases d <;> simp only [hd] at e <;> first
          | (cases e; done)
          | (simp only [Option.some.injEq, Prod.mk.injEq] at e
             obtain ⟨rfl, rfl⟩ := e
             refine pure rfl ?_
             simp only [opV, hx x (by simp [Op.operands]), ha, Option.bind_some, hd]
             rw [if_pos hc])
    · cases e
  | makeFunc fn first caps =>
    cases fn with
    | func f =>
      simp only [opV] at e
      split at e
      · rename_i h0
        simp only [Option.bind_eq_some_iff] at e
        obtain ⟨cs, hcs, e⟩ := e
        split at e
        · rename_i hc
          cases e
          refine pure rfl ?_
          simp only [opV]
          rw [if_pos h0, evs_ag fun x hm => hx x (by simp [Op.operands]; exact .inr (by simpa using hm)), hcs]
          simp only [Option.bind_some]
          rw [if_pos hc]
        · cases e
      · cases e
    | _ => simp [opV] at e
  | makeSlice t l c =>
    simp only [opV, Option.bind_eq_some_iff] at e
    obtain ⟨lv, hl, cv, hc, e⟩ := e
    split at e
    · rename_i el sz bt zv l' c' htt
      simp only [Option.bind_eq_some_iff] at e
      obtain ⟨ei, hei, z, hz, e⟩ := e
      split at e
      · rename_i hcc
        cases e
        refine ⟨_, ?_, (Lk.refl h).upd hid⟩
        simp only [opV, hx l (by simp [Op.operands]), hx c (by simp [Op.operands]), hl, hc, Option.bind_some, htt, hei, hz]
        rw [if_pos hcc]
      · cases e
    · cases e
  | slice t x lo hi m =>
    cases m with
    | some m => simp [opV] at e
    | none =>
      simp only [opV, Option.bind_eq_some_iff] at e
      obtain ⟨xv, hxv, l, hl, r, hr, e⟩ := e
      split at e
      · rename_i hal
        simp only [Option.map_eq_some_iff, Prod.mk.injEq] at e
        obtain ⟨u, hu, rfl, rfl⟩ := e
        refine pure rfl ?_
        have h1 : sliceV E st2.rt t xv l r = sliceV E st.rt t xv l r := rfl
        simp only [opV, hx x (by simp [Op.operands]), hxv, Option.bind_some, evOpt_ag (x := lo) (fun y hy => hx y (by subst hy; simp [Op.operands])), evOpt_ag (x := hi) (fun y hy => hx y (by subst hy; simp [Op.operands])), hl, hr, alive_ag h (hv rfl (x := x) (by simp [Op.operands]) hxv)]
        rw [if_pos hal, h1, hu]; rfl
      · cases e
  | fieldAddr s x f =>
    simp only [opV, Option.bind_eq_some_iff] at e
    obtain ⟨xv, hxv, fl, hf, e⟩ := e
    have hi := hv rfl (x := x) (by simp [Op.operands]) hxv
    split at e
    · split at e
      · rename_i hc
        cases e
        refine pure rfl ?_
        simp only [opV, hx x (by simp [Op.operands]), hxv, hf, Option.bind_some]
        rw [if_pos hc]
      · cases e
    · rename_i o nv p sz i k
      split at e
      · rename_i hc
        cases e
        refine pure rfl ?_
        simp only [opV, hx x (by simp [Op.operands]), hxv, hf, Option.bind_some, look_ag h (hi o (by simp [ids]))]
        rw [if_pos hc]
      · cases e
    · cases e
  | field s x f =>
    simp only [opV, Option.bind_eq_some_iff] at e
    obtain ⟨xv, hxv, fl, hf, e⟩ := e
    split at e
    · split at e
      · rename_i hc
        simp only [Option.map_eq_some_iff, Prod.mk.injEq] at e
        obtain ⟨u, hu, rfl, rfl⟩ := e
        refine pure rfl ?_
        simp only [opV, hx x (by simp [Op.operands]), hxv, hf, Option.bind_some]
        rw [if_pos hc, hu]; rfl
      · cases e
    · cases e
  | indexAddr t x i =>
    simp only [opV, Option.bind_eq_some_iff] at e
    obtain ⟨xv, hxv, iv, hiv, e⟩ := e
    split at e
    · split at e
      · rename_i hal
        simp only [Option.map_eq_some_iff, Prod.mk.injEq] at e
        obtain ⟨u, hu, rfl, rfl⟩ := e
        refine pure rfl ?_
        simp only [opV, hx x (by simp [Op.operands]), hx i (by simp [Op.operands]), hxv, hiv, Option.bind_some, alive_ag h (hv rfl (x := x) (by simp [Op.operands]) hxv)]
        rw [if_pos hal, hu]; rfl
      · cases e
    · cases e
  | index t x i =>
    simp only [opV, Option.bind_eq_some_iff] at e
    obtain ⟨xv, hxv, iv, hiv, e⟩ := e
    split at e
    · simp only [Option.map_eq_some_iff, Prod.mk.injEq] at e
      obtain ⟨u, hu, rfl, rfl⟩ := e
      exact pure rfl (by simp [opV, hx x (by simp [Op.operands]), hx i (by simp [Op.operands]), hxv, hiv, hu])
    · cases e
  | extract x i =>
    simp only [opV, Option.bind_eq_some_iff] at e
    obtain ⟨xv, hxv, e⟩ := e
    split at e
    · simp only [Option.map_eq_some_iff, Prod.mk.injEq] at e
      obtain ⟨u, hu, rfl, rfl⟩ := e
      exact pure rfl (by simp [opV, hx x (by simp [Op.operands]), hxv, hu])
    · cases e
  | call c =>
    simp only [opV, callOp, Option.bind_eq_some_iff] at e
    obtain ⟨args, hargs, e⟩ := e
    have hargs2 : evs st2 c.args.toList = some args := by rw [evs_ag fun x hm => hx x (by simp [Op.operands, Call.operands]; exact .inr (by simpa using hm)), hargs]
    have hai : ∀ o ∈ idss args, H o := fun o hm => by
      obtain ⟨u, hu, hi⟩ := idss_mem.1 hm
      obtain ⟨x, hxm, hxe⟩ := evs_mem hargs hu
      exact hv rfl (by simp [Op.operands, Call.operands]; exact .inr (by simpa using hxm)) hxe o hi
    split at e
    · rename_i f hcal
      simp only [Option.bind_eq_some_iff] at e
      obtain ⟨fv, hf, e⟩ := e
      have hfm : f ∈ (Op.call c).operands.toList := by simp [Op.operands, Call.operands, hcal]
      have hfi := hv rfl hfm hf
      split at e
      · rename_i fid caps
        obtain ⟨r3, h3, k3⟩ := callV_lk h hb (args := args ++ caps) (fun o hm => by
          obtain ⟨u, hu, hi⟩ := idss_mem.1 hm
          rcases List.mem_append.1 hu with h1 | h1
          · exact hai o (idss_mem.2 ⟨u, h1, hi⟩)
          · exact hfi o (by simp only [ids]; exact idss_mem.2 ⟨u, h1, hi⟩)) e
        refine ⟨r3, ?_, k3⟩
        simp only [opV, callOp, hargs2, Option.bind_some, hcal, hx f hfm, hf]
        exact h3
      · cases e
    · rename_i b hcal
      simp only [opV, callOp, hargs2, Option.bind_some, hcal]
      unfold builtinV at e ⊢
      split at e
      · split at e
        · rename_i x hal
          simp only [Option.bind_eq_some_iff, Option.map_eq_some_iff, Prod.mk.injEq] at e
          obtain ⟨t, ht, u, hu, rfl, rfl⟩ := e
          refine ⟨st2.rt, ?_, Lk.refl h⟩
          rw [alive_ag h fun o hm => hai o (by simpa [idss] using hm), if_pos hal, ht]
          simp [hu]
        · cases e
      · simp only [Option.bind_eq_some_iff] at e
        obtain ⟨t, ht, t1, ht1, e⟩ := e
        split at e
        · rename_i hs
          obtain ⟨r3, h3, k3⟩ := appendV_lk h hid (fun o hm => hai o (by simp [idss, hm])) (fun o hm => hai o (by simp [idss, hm])) e
          refine ⟨r3, ?_, k3⟩
          simp only [ht, ht1, Option.bind_some]
          rw [if_pos hs, h3]
        · cases e
      · simp only [Option.bind_eq_some_iff, Option.map_eq_some_iff, Prod.mk.injEq] at e
        obtain ⟨t, ht, r1, hr1, rfl, rfl⟩ := e
        obtain ⟨r3, h3, k3⟩ := clearV_lk h (fun o hm => hai o (by simp [idss, hm])) hr1
        exact ⟨r3, by simp [ht, h3], k3⟩
      · simp only [Option.map_eq_some_iff, Prod.mk.injEq] at e
        obtain ⟨u, hu, rfl, rfl⟩ := e
        exact ⟨st2.rt, by simp [hu], Lk.refl h⟩
      · simp only [Option.map_eq_some_iff, Prod.mk.injEq] at e
        obtain ⟨u, hu, rfl, rfl⟩ := e
        exact ⟨st2.rt, by simp [hu], Lk.refl h⟩
      · cases e
    · cases e
  | _ => simp [opV] at e
end Go.Ln
/- Regions whose order is drawn: what is checked of them, and which places an operation turns. -/
set_option linter.unusedVariables false
set_option linter.unusedSimpArgs false
set_option linter.unusedSectionVars false
namespace Go.Ln
open Go

/-! ### which places an operation turns -/
def callW (E : Env) (rt : Store) (f : FuncId) (args : List V) : List Nat :=
  match E.fn f with
  | some e => (givenOf 0 e.own args).map (·.1) ++ (match (argsV rt e.own args).bind e.F with
    | some r => if hasImm r.1 || hasImms r.2 then lentOf e.own args else []
    | none => [])
  | none => []
def appendW (rt : Store) (d x : V) : List Nat :=
  ids d ++ (match x with
  | .hs o nv p _ off len => (match look rt o nv p with
    | some y => if ((y.2.drop off).take len).all flatE then [] else [o]
    | none => [o])
  | _ => [])
def opW (E : Env) (st : St) (op : Op) : List Nat :=
  match op with
  | .box _ _ | .buildSlice .. | .store .. => opIds st op
  | .call c => (match c.callee with
    | .value f => (match ev st f, evs st c.args.toList with
      | some (.fn g caps), some args => callW E st.rt g (args ++ caps)
      | _, _ => [])
    | .builtin .clear => opIds st op
    | .builtin .append => (match evs st c.args.toList with
      | some [d, x] => appendW st.rt d x
      | _ => [])
    | _ => [])
  | _ => []

theorem lookG_key {g : List Giv} {o : Nat} {x : Path × Nat × Nat} (h : lookG g o = some x) : o ∈ g.map (·.1) := List.mem_map.2 ⟨(o, x), lookG_mem h, rfl⟩

theorem callV_w {E : Env} {rt rt1 : Store} {id : Nat} {f : FuncId} {args : List V} {v : V} (e : callV E rt id f args = some (v, rt1)) {o : Nat} (h : o ∉ callW E rt f args) (hb : ¬ (id ≤ o ∧ o < id + room)) : rt1 o = rt o := by
  simp only [callV, Option.bind_eq_some_iff] at e
  obtain ⟨en, hen, e⟩ := e
  split at e
  · simp only [Option.bind_eq_some_iff] at e
    obtain ⟨xs, hxs, ⟨r, os⟩, hF, e⟩ := e
    simp only at e
    split at e
    · rename_i hroom
      simp only [Option.some.injEq, Prod.mk.injEq] at e
      obtain ⟨_, rfl⟩ := e
      simp only [callW, hen, hxs, Option.bind_some, hF, List.mem_append, not_or] at h
      simp only [addRoots]
      rw [if_neg (by omega)]
      simp only [backSt]
      cases hg : lookG (givenOf 0 en.own args) o with
      | some x => exact absurd (lookG_key hg) h.1
      | none =>
        have : ¬ (if (hasImm r || hasImms os) = true then lentOf en.own args else []).contains o = true := by
          simpa using h.2
        simp only
        rw [if_neg this]
    · cases e
  · cases e

theorem takeEls_w {rt rt1 : Store} {x : V} {es : List V} (e : takeEls rt x = some (es, rt1)) {o : Nat} (h : o ∉ (match x with
  | .hs o nv p _ off len => (match look rt o nv p with
    | some y => if ((y.2.drop off).take len).all flatE then [] else [o]
    | none => [o])
  | _ => [])) : rt1 o = rt o := by
  cases x with
  | isl n es => simp only [takeEls, Option.some.injEq, Prod.mk.injEq] at e; rw [e.2]
  | hs o' nv p s off len =>
    simp only [takeEls, Option.bind_eq_some_iff] at e
    obtain ⟨y, hy, e⟩ := e
    simp only [hy] at h
    split at e
    · split at e
      · cases e
      · split at e
        · cases e; rfl
        · rename_i hf
          rw [if_neg hf] at h
          split at e
          · cases e
            have : o ≠ o' := by simpa using h
            simp [upd, this]
          · cases e
    · cases e
  | _ => simp [takeEls] at e

theorem takeOut_w {rt rt1 : Store} {o o' : Nat} {r : Root} {p} (e : takeOut rt o' r p = some rt1) (h : o ≠ o') : rt1 o = rt o := by
  unfold takeOut at e
  split at e
  · cases e; simp [upd, h]
  · simp only [Option.bind_eq_some_iff, Option.map_eq_some_iff] at e
    obtain ⟨y, hy, z, hz, es, hes, rfl⟩ := e
    simp [upd, h]
theorem absorbCell_w {rt rt1 : Store} {d u : V} (e : absorbCell rt d = some (u, rt1)) {o : Nat} (h : o ∉ ids d) : rt1 o = rt o := by
  obtain ⟨rt3, h3, k⟩ := absorbCell_lk (H := fun x => x ∈ ids d) (rt2 := rt) (fun _ _ => rfl) (fun _ h => h) e
  exact ((k o).2 h).2

theorem opV_w {E : Env} {id : Nat} {st : St} {op : Op} {v : V} {rt1 : Store} (e : opV E id st op = some (v, rt1)) {o : Nat} (h : o ∉ opW E st op) (hb : ¬ (id ≤ o ∧ o < id + room)) : rt1 o = st.rt o := by
  have all : o ∉ opR st op → rt1 o = st.rt o := fun hn => by
    obtain ⟨rt3, h3, k⟩ := opV_lk (H := fun x => x ∈ opR st op ∨ (id ≤ x ∧ x < id + room)) (st2 := st) (fun o h1 h2 => .inr ⟨h1, h2⟩) (fun o h => .inl h) (fun _ _ => rfl) (fun _ _ => rfl) e
    exact ((k o).2 (by rintro (h | h); exact hn h; exact hb h)).2
  cases op with
  | box t x => exact all (by simpa [opR, noRt, opW] using h)
  | buildSlice t n ps => exact all (by simpa [opR, noRt, opW] using h)
  | store t p x => exact all (by simpa [opR, noRt, opW] using h)
  | call c =>
    simp only [opV, callOp, Option.bind_eq_some_iff] at e
    obtain ⟨args, hargs, e⟩ := e
    split at e
    · rename_i f hcal
      simp only [Option.bind_eq_some_iff] at e
      obtain ⟨fv, hf, e⟩ := e
      split at e
      · rename_i fid caps
        simp only [opW, hcal, hf, hargs] at h
        exact callV_w e h hb
      · cases e
    · rename_i b hcal
      unfold builtinV at e
      split at e
      · split at e
        · simp only [Option.bind_eq_some_iff, Option.map_eq_some_iff, Prod.mk.injEq] at e
          obtain ⟨t, ht, u, hu, _, rfl⟩ := e
          rfl
        · cases e
      · simp only [Option.bind_eq_some_iff] at e
        obtain ⟨t, ht, t1, ht1, e⟩ := e
        split at e
        · rename_i d x _
          simp only [opW, hcal, hargs, appendW, List.mem_append, not_or] at h
          unfold appendV at e
          split at e
          · simp only [Option.bind_eq_some_iff] at e
            obtain ⟨ei, hei, ⟨es, ra⟩, hes, e⟩ := e
            have h1 := takeEls_w hes h.2
            have hid : o ≠ id := by rintro rfl; exact hb ⟨Nat.le_refl _, by unfold room; omega⟩
            split at e
            · split at e
              · split at e
                · simp only [Option.some.injEq, Prod.mk.injEq] at e
                  obtain ⟨_, rfl⟩ := e
                  simpa [upd, hid] using h1
                · cases e
              · simp only [Option.bind_eq_some_iff] at e
                obtain ⟨z, hz, e⟩ := e
                split at e
                · simp only [Option.map_eq_some_iff, Prod.mk.injEq] at e
                  obtain ⟨⟨u1, u2⟩, hu, _, rfl⟩ := e
                  have h2 := absorbCell_w hu h.1
                  simp only [upd, if_neg hid]
                  rw [h2, h1]
                · cases e
              · cases e
            · cases e
          · cases e
        · cases e
      · exact all (by simpa [opR, noRt, opW, hcal] using h)
      · simp only [Option.map_eq_some_iff, Prod.mk.injEq] at e
        obtain ⟨u, hu, _, rfl⟩ := e
        rfl
      · simp only [Option.map_eq_some_iff, Prod.mk.injEq] at e
        obtain ⟨u, hu, _, rfl⟩ := e
        rfl
      · cases e
    · cases e
  | alloc t =>
    simp only [opV, Option.map_eq_some_iff, Option.bind_eq_some_iff, Prod.mk.injEq] at e
    obtain ⟨ti, hti, z, hz, _, rfl⟩ := e
    have hid : o ≠ id := by rintro rfl; exact hb ⟨Nat.le_refl _, by unfold room; omega⟩
    simp [upd, hid]
  | makeSlice t l c => exact all (by simp [opR, noRt])
  | nilCheck x =>
    simp only [opV, Option.bind_eq_some_iff] at e
    obtain ⟨u, hu, e⟩ := e
    split at e
    · split at e <;> cases e; rfl
    · cases e; rfl
    · cases e
  | load t p =>
    simp only [opV, Option.bind_eq_some_iff] at e
    obtain ⟨ti, hti, pv, hp, cs, hc, e⟩ := e
    split at e
    · simp only [Option.map_eq_some_iff, Prod.mk.injEq] at e
      obtain ⟨y, hy, _, rfl⟩ := e
      rfl
    · cases e
  | slice t x lo hi m =>
    cases m with
    | some m => simp [opV] at e
    | none =>
      simp only [opV, Option.bind_eq_some_iff] at e
      obtain ⟨xv, hxv, l, hl, r, hr, e⟩ := e
      split at e
      · simp only [Option.map_eq_some_iff, Prod.mk.injEq] at e
        obtain ⟨u, hu, _, rfl⟩ := e
        rfl
      · cases e
  | fieldAddr s x f =>
    simp only [opV, Option.bind_eq_some_iff] at e
    obtain ⟨xv, hxv, fl, hf, e⟩ := e
    split at e
    · split at e <;> cases e; rfl
    · split at e <;> cases e; rfl
    · cases e
  | indexAddr t x i =>
    simp only [opV, Option.bind_eq_some_iff] at e
    obtain ⟨xv, hxv, iv, hiv, e⟩ := e
    split at e
    · split at e
      · simp only [Option.map_eq_some_iff, Prod.mk.injEq] at e
        obtain ⟨u, hu, _, rfl⟩ := e
        rfl
      · cases e
    · cases e
  | makeInterface t x => exact all (by simp [opR, noRt])
  | makeFunc a b c => exact all (by simp [opR, noRt])
  | move x => exact all (by simp [opR, noRt])
  | assign x => exact all (by simp [opR, noRt])
  | pick a b c => exact all (by simp [opR, noRt])
  | build a b => exact all (by simp [opR, noRt])
  | binOp a b c d e => exact all (by simp [opR, noRt])
  | unOp a b c => exact all (by simp [opR, noRt])
  | convert a b c =>
    simp only [opV, Option.bind_eq_some_iff, Option.map_eq_some_iff, Prod.mk.injEq] at e
    obtain ⟨y, hy, u, hu, _, rfl⟩ := e
    rfl
  | field a b c => exact all (by simp [opR, noRt])
  | index a b c => exact all (by simp [opR, noRt])
  | extract a b => exact all (by simp [opR, noRt])
  | _ => simp [opV] at e
end Go.Ln
/- Regions whose order is drawn: each order that the dependencies allow leads to the same state. -/
set_option linter.unusedVariables false
set_option linter.unusedSimpArgs false
set_option linter.unusedSectionVars false
namespace Go.Ln
open Go

theorem appendW_sub {rt : Store} {d x : V} {o : Nat} (h : o ∈ appendW rt d x) : o ∈ ids d ∨ o ∈ ids x := by
  simp only [appendW, List.mem_append] at h
  refine h.imp id fun h => ?_
  split at h
  · split at h
    · split at h
      · cases h
      · simpa [ids] using h
    · simpa [ids] using h
  · cases h
theorem callW_sub {E : Env} {rt : Store} {f : FuncId} {args : List V} {o : Nat} (h : o ∈ callW E rt f args) : o ∈ idss args := by
  unfold callW at h
  split at h
  · simp only [List.mem_append] at h
    rcases h with h | h
    · obtain ⟨⟨o', p, a, k⟩, hg, rfl⟩ := List.mem_map.1 h
      obtain ⟨a, v, k, y, h1, h2, h3, h4, h5⟩ := givenOf_mem.1 hg
      exact idss_mem.2 ⟨v, List.mem_of_getElem? h2, hid_ids h3 h4⟩
    · split at h
      · split at h
        · exact lentOf_sub h
        · cases h
      · cases h
  · cases h
theorem opW_sub {E : Env} {st : St} {op : Op} {o : Nat} (h : o ∈ opW E st op) : o ∈ opR st op := by
  cases op with
  | box t x => simpa [opR, noRt, opW] using h
  | buildSlice t n ps => simpa [opR, noRt, opW] using h
  | store t p x => simpa [opR, noRt, opW] using h
  | call c =>
    have e : opR st (.call c) = opIds st (.call c) := rfl
    rw [e]
    simp only [opW] at h
    split at h
    · rename_i f hcal
      split at h
      · rename_i g caps args hf hargs
        obtain ⟨v, hv, ho⟩ := idss_mem.1 (callW_sub h)
        rcases List.mem_append.1 hv with h1 | h1
        · obtain ⟨x, hx, hxe⟩ := evs_mem hargs h1
          exact opIds_mem (by simp [Op.operands, Call.operands]; exact .inr (by simpa using hx)) hxe ho
        · exact opIds_mem (x := f) (by simp [Op.operands, Call.operands, hcal]) hf (by simp only [ids]; exact idss_mem.2 ⟨v, h1, ho⟩)
      · cases h
    · exact h
    · split at h
      · rename_i d x hargs
        rcases appendW_sub h with h1 | h1
        · obtain ⟨y, hy, hye⟩ := evs_mem hargs (v := d) (by simp)
          exact opIds_mem (by simp [Op.operands, Call.operands]; exact .inr (by simpa using hy)) hye h1
        · obtain ⟨y, hy, hye⟩ := evs_mem hargs (v := x) (by simp)
          exact opIds_mem (by simp [Op.operands, Call.operands]; exact .inr (by simpa using hy)) hye h1
      · cases h
    · cases h
  | _ => simp [opW] at h

/-! ### what is checked ahead -/
def modeFree (e : Edge) : Bool :=
  match e.ground with
  | .textOnly _ => false
  | .gcOnly _ => false
  | _ => true
def pre (o : Oper) : List Nat := (o.after.toList.filter modeFree).map (·.on)
def maskF (ms : List Nat) : List Nat → Nat → Nat
  | [], m => m
  | j :: l, m => maskF ms l (m ||| (2 ^ j) ||| ms.getD j 0)
def maskOf (ms : List Nat) (o : Oper) : Nat := maskF ms (pre o) 0
def opTmps (op : Op) : List Nat := op.operands.toList.filterMap fun
  | .tmp t => some t
  | _ => none
def guardTmp (ops : Array Oper) (o : Oper) : List Nat :=
  match o.guard with
  | some (j, _) => ((ops[j]?).bind (·.dst)).toList
  | none => []
def looks (ops : Array Oper) (o : Oper) : List Nat := opTmps o.op ++ guardTmp ops o
def apartT (l : List Nat) : Option Nat → Bool
  | some d => !l.contains d
  | none => true
def apartD : Option Nat → Option Nat → Bool
  | some a, some b => a != b
  | _, _ => true
def static (ops : Array Oper) (ms : List Nat) : Bool :=
  (List.range ops.size).all fun i => match ops[i]? with
    | none => false
    | some oi => (pre oi).all (fun j => decide (j < i)) && (ms.getD i 0 == maskOf ms oi) && (List.range i).all fun j => match ops[j]? with
      | none => false
      | some oj => (ms.getD i 0).testBit j || (apartT (looks ops oi) oj.dst && apartT (looks ops oj) oi.dst && apartD oi.dst oj.dst)

theorem maskF_bit {ms : List Nat} {j : Nat} : ∀ {l : List Nat} {m : Nat}, (maskF ms l m).testBit j = true → m.testBit j = true ∨ ∃ k ∈ l, j = k ∨ (ms.getD k 0).testBit j = true
  | [], m, h => .inl h
  | k :: l, m, h => by
    rcases maskF_bit (l := l) h with h1 | ⟨k', hk, h1⟩
    · simp only [Nat.testBit_or, Bool.or_eq_true, Nat.testBit_two_pow, decide_eq_true_eq] at h1
      rcases h1 with (h1 | h1) | h1
      · exact .inl h1
      · exact .inr ⟨k, by simp, .inl h1.symm⟩
      · exact .inr ⟨k, by simp, .inr h1⟩
    · exact .inr ⟨k', List.mem_cons_of_mem _ hk, h1⟩

structure StOk (ops : Array Oper) (ms : List Nat) (i : Nat) (oi : Oper) : Prop where
  pre : ∀ j ∈ pre oi, j < i
  mask : ms.getD i 0 = maskOf ms oi
  pair : ∀ j, j < i → ∀ oj, ops[j]? = some oj → (ms.getD i 0).testBit j = true ∨ (apartT (looks ops oi) oj.dst = true ∧ apartT (looks ops oj) oi.dst = true ∧ apartD oi.dst oj.dst = true)

theorem static_spec {ops : Array Oper} {ms : List Nat} (h : static ops ms = true) {i : Nat} {oi : Oper} (hi : ops[i]? = some oi) : StOk ops ms i oi := by
  unfold static at h
  rw [List.all_eq_true] at h
  have := h i (List.mem_range.2 (Array.getElem?_eq_some_iff.1 hi).1)
  simp only [hi, Bool.and_eq_true, List.all_eq_true, decide_eq_true_eq, beq_iff_eq] at this
  obtain ⟨⟨h1, h2⟩, h3⟩ := this
  refine ⟨h1, h2, fun j hj oj hoj => ?_⟩
  have := h3 j (List.mem_range.2 hj)
  simp only [hoj, Bool.or_eq_true, Bool.and_eq_true] at this
  rcases this with h | ⟨⟨h, h'⟩, h''⟩
  · exact .inl h
  · exact .inr ⟨h, h', h''⟩

def blk (base j o : Nat) : Prop := base + room * j ≤ o ∧ o < base + room * (j + 1)
theorem blk_inj {base j j' o : Nat} (h : blk base j o) (h' : blk base j' o) : j = j' := by
  unfold blk room at *
  omega

/-- A run in the text's order, with what each operation looked at and turned. -/
structure Trace (E : Env) (ops : Array Oper) (ms : List Nat) (base : Nat) (sq : Nat → St) (R W : Nat → List Nat) : Prop where
  step : ∀ i, i < ops.size → ∃ o b, ops[i]? = some o ∧ wantV ops (sq i) o = some b ∧ R i = (if b then opR (sq i) o.op else []) ∧ W i = (if b then opW E (sq i) o.op else []) ∧ stepV E ops (base + room * i) (sq i) i = some (sq (i + 1))
  own : ∀ i, i < ops.size → ∀ x ∈ R i, x < base ∨ ∃ j, (ms.getD i 0).testBit j = true ∧ blk base j x
  apart : ∀ j i, j < i → i < ops.size → (ms.getD i 0).testBit j = true ∨ ((∀ x ∈ W j, x ∉ R i) ∧ ∀ x ∈ W i, x ∉ R j)

section
variable {E : Env} {ops : Array Oper} {ms : List Nat} {base : Nat} {sq : Nat → St} {R W : Nat → List Nat}

def wT (ops : Array Oper) (j t : Nat) : Prop := ∃ o, ops[j]? = some o ∧ o.dst = some t
def wR (W : Nat → List Nat) (base j o : Nat) : Prop := o ∈ W j ∨ blk base j o

structure Inv (ops : Array Oper) (base : Nat) (sq : Nat → St) (W : Nat → List Nat) (S : Nat → Prop) (σ : St) : Prop where
  nx : σ.nx = (sq 0).nx
  len : σ.tm.length = (sq 0).tm.length
  tm : ∀ t k, k ≤ ops.size → (∀ j, j < k → wT ops j t → S j) → (∀ j, k ≤ j → j < ops.size → wT ops j t → ¬ S j) → σ.tm[t]? = (sq k).tm[t]?
  rt : ∀ o k, k ≤ ops.size → (∀ j, j < k → wR W base j o → S j) → (∀ j, k ≤ j → j < ops.size → wR W base j o → ¬ S j) → σ.rt o = (sq k).rt o

theorem putT_at {tm : List V} {d : Option Nat} {v : V} {t : Nat} (h : d = some t) : (putT tm d v)[t]? = if t < tm.length then some v else none := by
  subst h
  simp only [putT]
  by_cases hl : t < tm.length
  · rw [if_pos hl, List.getElem?_set_self hl]
  · rw [if_neg hl, List.getElem?_eq_none (by simpa using hl)]
theorem putT_ne {tm : List V} {d : Option Nat} {v : V} {t : Nat} (h : d ≠ some t) : (putT tm d v)[t]? = tm[t]? := by
  cases d with
  | none => rfl
  | some d => simp only [putT]; rw [List.getElem?_set_ne (by simpa using h)]

/-- One step, spelled. -/
theorem stepV_parts {id i : Nat} {st st' : St} {o : Oper} {b : Bool} (ho : ops[i]? = some o) (hb : wantV ops st o = some b) (h : stepV E ops id st i = some st') :
    ∃ v, st' = { st with tm := putT st.tm o.dst v, rt := st'.rt } ∧ ((b = true ∧ opV E id st o.op = some (v, st'.rt)) ∨ (b = false ∧ v = .und ∧ st'.rt = st.rt)) := by
  unfold stepV at h
  simp only [ho, hb, Option.bind_some] at h
  cases b with
  | true =>
    simp only [if_true, Option.map_eq_some_iff] at h
    obtain ⟨⟨v, rt'⟩, hv, rfl⟩ := h
    exact ⟨v, rfl, .inl ⟨rfl, hv⟩⟩
  | false =>
    simp only [Bool.false_eq_true, if_false, Option.some.injEq] at h
    subst h
    exact ⟨.und, rfl, .inr ⟨rfl, rfl, rfl⟩⟩

theorem Trace.tmF (T : Trace E ops ms base sq R W) {i t : Nat} (hi : i < ops.size) (h : ¬ wT ops i t) : (sq (i + 1)).tm[t]? = (sq i).tm[t]? := by
  obtain ⟨o, b, h1, h2, _, _, h5⟩ := T.step i hi
  obtain ⟨v, h6, _⟩ := stepV_parts h1 h2 h5
  rw [h6]
  exact putT_ne fun hd => h ⟨o, h1, hd⟩
theorem Trace.len (T : Trace E ops ms base sq R W) {i : Nat} (hi : i ≤ ops.size) : (sq i).tm.length = (sq 0).tm.length := by
  induction i with
  | zero => rfl
  | succ i ih =>
    obtain ⟨o, b, h1, h2, _, _, h5⟩ := T.step i (by omega)
    obtain ⟨v, h6, _⟩ := stepV_parts h1 h2 h5
    rw [h6]
    simp only [putT_len]
    exact ih (by omega)
theorem Trace.nx (T : Trace E ops ms base sq R W) {i : Nat} (hi : i ≤ ops.size) : (sq i).nx = (sq 0).nx := by
  induction i with
  | zero => rfl
  | succ i ih =>
    obtain ⟨o, b, h1, h2, _, _, h5⟩ := T.step i (by omega)
    obtain ⟨v, h6, _⟩ := stepV_parts h1 h2 h5
    rw [h6]
    exact ih (by omega)
theorem Trace.rtF (T : Trace E ops ms base sq R W) {i o : Nat} (hi : i < ops.size) (h : ¬ wR W base i o) : (sq (i + 1)).rt o = (sq i).rt o := by
  obtain ⟨op, b, h1, h2, _, h4, h5⟩ := T.step i hi
  obtain ⟨v, _, h6 | h6⟩ := stepV_parts h1 h2 h5
  · rw [if_pos h6.1] at h4
    refine opV_w h6.2 (fun hw => h (.inl (by rw [h4]; exact hw))) fun hb => h (.inr ?_)
    unfold blk
    exact ⟨hb.1, by have := hb.2; rw [Nat.mul_add]; omega⟩
  · rw [h6.2.2]
theorem Trace.tmS (T : Trace E ops ms base sq R W) {t a b : Nat} (hab : a ≤ b) (hb : b ≤ ops.size) (h : ∀ j, a ≤ j → j < b → ¬ wT ops j t) : (sq b).tm[t]? = (sq a).tm[t]? := by
  induction b with
  | zero => have : a = 0 := by omega
            subst this; rfl
  | succ b ih =>
    by_cases he : a = b + 1
    · subst he; rfl
    · rw [T.tmF (by omega) (h b (by omega) (by omega))]
      exact ih (by omega) (by omega) fun j h1 h2 => h j h1 (by omega)
theorem Trace.rtS (T : Trace E ops ms base sq R W) {o a b : Nat} (hab : a ≤ b) (hb : b ≤ ops.size) (h : ∀ j, a ≤ j → j < b → ¬ wR W base j o) : (sq b).rt o = (sq a).rt o := by
  induction b with
  | zero => have : a = 0 := by omega
            subst this; rfl
  | succ b ih =>
    by_cases he : a = b + 1
    · subst he; rfl
    · rw [T.rtF (by omega) (h b (by omega) (by omega))]
      exact ih (by omega) (by omega) fun j h1 h2 => h j h1 (by omega)

theorem Inv.init (T : Trace E ops ms base sq R W) : Inv ops base sq W (fun _ => False) (sq 0) :=
  ⟨rfl, rfl, fun t k hk h1 _ => (T.tmS (Nat.zero_le _) hk fun j _ hj hw => h1 j hj hw).symm, fun o k hk h1 _ => (T.rtS (Nat.zero_le _) hk fun j _ hj hw => h1 j hj hw).symm⟩

theorem Inv.final (T : Trace E ops ms base sq R W) {S : Nat → Prop} {σ : St} (I : Inv ops base sq W S σ) (h : ∀ j, j < ops.size → S j) : σ = sq ops.size := by
  have h1 : σ.tm = (sq ops.size).tm := List.ext_getElem? fun t => I.tm t ops.size (Nat.le_refl _) (fun j hj _ => h j hj) fun j h1 h2 => absurd h2 (by omega)
  have h2 : σ.rt = (sq ops.size).rt := funext fun o => I.rt o ops.size (Nat.le_refl _) (fun j hj _ => h j hj) fun j h1 h2 => absurd h2 (by omega)
  have h3 : σ.nx = (sq ops.size).nx := by rw [I.nx, T.nx (Nat.le_refl _)]
  cases σ
  simp only at h1 h2 h3
  rw [h1, h2, h3]

/-- What has been done is closed under what must stand before. -/
def Closed (ops : Array Oper) (S : Nat → Prop) : Prop := ∀ i o, ops[i]? = some o → S i → ∀ j ∈ pre o, S j

theorem anc_in (hs : static ops ms = true) {S : Nat → Prop} (hc : Closed ops S) : ∀ {i : Nat} {o : Oper}, ops[i]? = some o → (∀ j ∈ pre o, S j) → ∀ j, (ms.getD i 0).testBit j = true → S j ∧ j < i := by
  intro i
  induction i using Nat.strongRecOn with
  | _ i ih =>
    intro o ho hp j hj
    have so := static_spec hs ho
    rw [so.mask] at hj
    rcases maskF_bit hj with h | ⟨k, hk, h⟩
    · simp at h
    · have hki := so.pre k hk
      rcases h with rfl | h
      · exact ⟨hp _ hk, hki⟩
      · have hlt : k < ops.size := by have := (Array.getElem?_eq_some_iff.1 ho).1; omega
        obtain ⟨h1, h2⟩ := ih k hki (Array.getElem?_eq_getElem hlt) (fun x hx => hc k _ (Array.getElem?_eq_getElem hlt) (hp k hk) x hx) j h
        exact ⟨h1, by omega⟩
end
end Go.Ln
