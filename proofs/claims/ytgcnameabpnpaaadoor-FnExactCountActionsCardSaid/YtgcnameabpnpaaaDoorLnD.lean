/-
  A step by step reading of the printed code by values, proved sound once (part 4): no statement of the seat stands here.
-/
import Derived.Test.YtgcnameabpnpaaaDoorLnC
/- The state's relation outlasts forgetting; a run to an end. -/
set_option linter.unusedVariables false
set_option linter.unusedSimpArgs false
set_option linter.unusedSectionVars false
namespace Go.Ln
open Go
variable {G : Ground} {m : Nat} {w0 w : World} {ρ0 ρ : Own} {st : St} {a : Act}

theorem fixed_nodup (m : Nat) : (fixed m).Nodup := by
  unfold fixed
  exact List.nodup_range'
theorem nub_pre : ∀ {xs acc : List Nat}, ∃ r, nub acc xs = acc ++ r
  | [], acc => ⟨[], by simp [nub]⟩
  | x :: xs, acc => by
    simp only [nub]
    split
    · exact nub_pre
    · obtain ⟨r, h⟩ := @nub_pre xs (acc ++ [x])
      exact ⟨x :: r, by rw [h]; simp⟩
theorem nub_fixed {m i : Nat} {xs : List Nat} (h1 : 0 < i) (h2 : i ≤ m) : idx i (nub (fixed m) xs) 1 = some i := by
  have hd : (nub (fixed m) xs).Nodup := nub_nodup (fixed_nodup m)
  obtain ⟨r, h⟩ := @nub_pre xs (fixed m)
  have hg : (nub (fixed m) xs)[i - 1]? = some i := by
    rw [h, List.getElem?_append_left (by simp [fixed]; omega)]
    simp [fixed, List.getElem?_range', show i - 1 < m by omega]
    omega
  rw [idx_get hd hg]
  congr 1; omega
theorem nub_len {m : Nat} {xs : List Nat} : m ≤ (nub (fixed m) xs).length := by
  obtain ⟨r, h⟩ := @nub_pre xs (fixed m)
  rw [h]; simp [fixed]

theorem Rel.forget (R : Rel G m w0 ρ0 w ρ st a) (L : List Nat) : ∃ ρ', Rel G m w0 ρ0 w ρ' (normSt m L st) a := by
  have hd : (nub (fixed m) (idss (keepT L 0 st.tm))).Nodup := nub_nodup (fixed_nodup m)
  have hfx : ∀ i, 0 < i → i ≤ m → idx i (nub (fixed m) (idss (keepT L 0 st.tm))) 1 = some i := fun i h1 h2 => nub_fixed h1 h2
  have hlen : m ≤ (nub (fixed m) (idss (keepT L 0 st.tm))).length := nub_len
  generalize hos : nub (fixed m) (idss (keepT L 0 st.tm)) = os at hd hfx hlen
  have e1 : (normSt m L st).tm = rens st.rt os (keepT L 0 st.tm) := by simp [normSt, hos]
  have e2 : (normSt m L st).rt = renRt st.rt os := by simp [normSt, hos, renRt]
  have e3 : (normSt m L st).nx = os.length + 1 := by simp [normSt, hos]
  have nn : ∀ (i : Nat) v, (keepT L 0 st.tm)[i]? = some v → noNew (NewOf (past st.nx) st.rt) v := fun i v hv => by
    obtain ⟨v0, h1, h2 | h2⟩ := keepT_get hv
    · subst h2; exact R.tmn i v h1
    · subst h2; simp [noNew]
  refine ⟨renOwn ρ os, ⟨?_, ?_, renOwn_inj hd R.inj, ?_, ?_, ?_, ?_, ?_, R.wk, ?_, ?_, ?_, R.df, ?_, ?_, R.le, fun i h1 h2 => by rw [e3] at h2; unfold past at h2; omega⟩⟩
  · rw [e1, e2]
    refine ⟨by rw [rens_map, List.length_map, keepT_len]; exact R.tm.1, fun i v u hv hu => ?_⟩
    rw [rens_map, List.getElem?_map] at hv
    obtain ⟨v1, hv1, rfl⟩ := Option.map_eq_some_iff.1 hv
    obtain ⟨v0, h0, h2 | h2⟩ := keepT_get hv1
    · subst h2
      obtain ⟨g, hg, hs⟩ := R.tm.2 i v1 u h0 hu
      refine ⟨g, ?_, fun k x hx => ?_⟩
      · rw [hg]; unfold pack; rw [agg_ren, cells_ren, List.length_map]
      · rw [cells_ren, List.getElem?_map] at hx
        obtain ⟨x0, hx0, rfl⟩ := Option.map_eq_some_iff.1 hx
        exact ren_rep R.lab hd (hs k x0 hx0) rfl (noNew_mono (by rintro o nv ⟨_, h⟩; exact h.elim) (noNew_cell (R.tmn i v1 h0) hx0))
    · subst h2
      simp only [ren]
      exact Slot.mk1 rfl (.dead _ _)
  · rw [e2]; exact ren_rok hd R.lab R.rok R.rtn
  · rw [e2]
    intro n r h
    obtain ⟨o, r0, _, h1, rfl⟩ := renRt_inv hd h
    exact R.rtn o r0 h1
  · rw [e2]; exact ren_lab hd R.lab
  · rw [e2, e3]; exact fun o ho => renRt_high ho
  · rw [e3]; intro o ho; unfold past at ho; omega
  · rw [e1, e2, e3]
    intro i v hv
    rw [rens_map, List.getElem?_map] at hv
    obtain ⟨v1, hv1, rfl⟩ := Option.map_eq_some_iff.1 hv
    exact ren_nn hd (nn i v1 hv1)
  · exact fun b h1 h2 => ⟨renOwn_none (R.fr b h1 h2).1, (R.fr b h1 h2).2⟩
  · exact fun b l h => ⟨renOwn_far (R.k0 b l h).1, (R.k0 b l h).2⟩
  · intro b l h
    rcases renOwn_inv h with ⟨_, h1⟩ | ⟨o, h1, h2, h3⟩
    · exact R.f0 b l h1
    · have := (idx_pos h3).1; omega
  · exact ⟨R.gr.1, fun b hb => renOwn_none (R.gr.2.1 b hb), R.gr.2.2⟩
  · intro i b n hi hb hn hs
    have hle := R.le b i [] hb
    rw [e2, renRt_some (hfx i hi hle)] at hs
    have h0 := R.am i b n hi hb hn (by simpa using hs)
    exact ⟨renOwn_some h0.1 (by omega) (hfx i hi hle), h0.2⟩

end Go.Ln
/- A function's contract out of a run of the interpreter. -/
set_option linter.unusedVariables false
set_option linter.unusedSimpArgs false
set_option linter.unusedSectionVars false
namespace Go.Ln
open Go
variable {w w' : World} {ρ ρ' : Own} {rt rt' : Store}

/-! ### the results -/
theorem result1_run {P : Program} {E : Env} (A : Agree P E) (H : RtOk w ρ rt) (J : Inj ρ) {st : St} (hst : st.rt = rt) {tmps : Array Value} (T : TmOk w ρ rt st.tm tmps) {r : ResultVar} {v : V} (h : result1 E st r = some v) :
    ∃ u, ((match r with
      | .tmp t => pure (tmps.getD t undef)
      | .cell a t => do loadVar t (← asAddr (tmps.getD a undef))) : Sem Value).run P w = .ok u w ∧ Slot w ρ rt nowhere v u := by
  cases r with
  | tmp t =>
    simp only [result1] at h
    have hl := (List.getElem?_eq_some_iff.1 h).1
    obtain ⟨u, hu⟩ : ∃ u, tmps[t]? = some u := ⟨_, Array.getElem?_eq_getElem (by rw [← T.1]; exact hl)⟩
    exact ⟨u, by simp [Array.getD_eq_getD_getElem?, hu], T.2 t v u h hu⟩
  | cell a t =>
    simp only [result1, Option.bind_eq_some_iff] at h
    obtain ⟨ti, ht, p, hp, cs, hc, h⟩ := h
    split at h
    · rename_i hsz
      have hl := (List.getElem?_eq_some_iff.1 hp).1
      obtain ⟨u0, hu0⟩ : ∃ u, tmps[a]? = some u := ⟨_, Array.getElem?_eq_getElem (by rw [← T.1]; exact hl)⟩
      have hpv : isAggV p = false := by cases p <;> first | rfl | simp [from_] at hc
      rw [hst] at hc
      obtain ⟨b, off, hu, hr⟩ := from_rep H J hc (Slot.one hpv (T.2 a p u0 hp hu0)) (by omega)
      have hx : ∀ j, j < ti.size → ∃ y, w.cell? ⟨b, off + j, none⟩ = some y ∧ ∀ x, cs[j]? = some x → RepV w ρ rt none x y := by
        intro j hj
        obtain ⟨y, h1, h2⟩ := hr j (cs[j]'(by omega)) (by simp)
        exact ⟨y, h1, fun x hx => by rw [List.getElem?_eq_getElem (by omega)] at hx; cases hx; exact h2⟩
      have hg : ∃ g : Nat → Value, ∀ j, j < ti.size → w.cell? ⟨b, off + j, none⟩ = some (g j) ∧ ∀ x, cs[j]? = some x → RepV w ρ rt none x (g j) := by
        refine ⟨fun j => if hj : j < ti.size then (hx j hj).choose else undef, fun j hj => ?_⟩
        simp only [hj, dif_pos]
        exact (hx j hj).choose_spec
      obtain ⟨g, hg⟩ := hg
      have h1 : isAggD ti.desc = false → ti.size = 1 := fun ha => by
        unfold mkVal at h
        rw [if_neg (by simp [ha])] at h
        split at h
        · rename_i v' hv'
          have := congrArg List.length hv'
          simp [Nat.min_eq_left hsz.2] at this
          exact this
        · cases h
      refine ⟨_, ?_, mkVal_slot (g := g) h (fun k x hk => ?_)⟩
      · simp only [Array.getD_eq_getD_getElem?, hu0, Option.getD_some, hu, asAddr, Sem.run_bind, Sem.run_pure, Result.andThen]
        rw [run_loadVar A ht (fun j hj => (hg j hj).1) h1]
        simp [List.length_take, Nat.min_eq_left hsz.2]
      · rw [List.getElem?_take] at hk
        split at hk
        · rename_i hk'
          exact (hg k hk').2 x hk
        · cases hk
    · cases h

theorem resultsV_get {E : Env} {st : St} : ∀ {rs : List ResultVar} {vs : List V}, resultsV E st rs = some vs → vs.length = rs.length ∧ ∀ (i : Nat) r v, rs[i]? = some r → vs[i]? = some v → result1 E st r = some v
  | [], vs, h => by simp [resultsV] at h; subst h; simp
  | r :: rs, vs, h => by
    simp only [resultsV, Option.bind_eq_some_iff, Option.map_eq_some_iff] at h
    obtain ⟨v, hv, ys, hys, rfl⟩ := h
    have ih := resultsV_get hys
    refine ⟨by simp [ih.1], fun i r' v' h1 h2 => ?_⟩
    cases i with
    | zero => simp at h1 h2; subst h1 h2; exact hv
    | succ i => exact ih.2 i r' v' (by simpa using h1) (by simpa using h2)

theorem results_run {P : Program} {E : Env} (A : Agree P E) (H : RtOk w ρ rt) (J : Inj ρ) {st : St} (hst : st.rt = rt) {tmps : Array Value} (T : TmOk w ρ rt st.tm tmps) {fn : Func} {vs : List V} (h : resultsV E st fn.results.toList = some vs) :
    ∃ p : Nat → Value, (results fn tmps).run P w = .ok (if vs.length = 1 then p 0 else .tuple (arrOf vs.length p)) w ∧ ∀ (i : Nat) v, vs[i]? = some v → Slot w ρ rt nowhere v (p i) := by
  obtain ⟨hl, hg⟩ := resultsV_get h
  have hx : ∀ i, i < vs.length → ∃ u, ∀ r v, fn.results.toList[i]? = some r → vs[i]? = some v → ((match r with
      | .tmp t => pure (tmps.getD t undef)
      | .cell a t => do loadVar t (← asAddr (tmps.getD a undef))) : Sem Value).run P w = .ok u w ∧ Slot w ρ rt nowhere v u := by
    intro i hi
    obtain ⟨u, h1, h2⟩ := result1_run A H J hst T (hg i _ _ (List.getElem?_eq_getElem (by omega)) (List.getElem?_eq_getElem hi))
    refine ⟨u, fun r v hr hv => ?_⟩
    rw [List.getElem?_eq_getElem (by omega)] at hr
    rw [List.getElem?_eq_getElem hi] at hv
    cases hr
    cases hv
    exact ⟨h1, h2⟩
  have hp : ∃ p : Nat → Value, ∀ i, i < vs.length → ∀ r v, fn.results.toList[i]? = some r → vs[i]? = some v → ((match r with
      | .tmp t => pure (tmps.getD t undef)
      | .cell a t => do loadVar t (← asAddr (tmps.getD a undef))) : Sem Value).run P w = .ok (p i) w ∧ Slot w ρ rt nowhere v (p i) := by
    refine ⟨fun i => if hi : i < vs.length then (hx i hi).choose else undef, fun i hi => ?_⟩
    simp only [hi, dif_pos]
    exact (hx i hi).choose_spec
  obtain ⟨p, hp⟩ := hp
  refine ⟨p, ?_, fun i v hv => ?_⟩
  · have hm := mapM_run (P := P) w (l := fn.results.toList) (r := (List.range vs.length).map p) (f := fun r => ((match r with
      | .tmp t => pure (tmps.getD t undef)
      | .cell a t => do loadVar t (← asAddr (tmps.getD a undef))) : Sem Value)) (by simp [hl]) (fun i r u h1 h2 => by
        rw [List.getElem?_map] at h2
        obtain ⟨j, hj, rfl⟩ := Option.map_eq_some_iff.1 h2
        have hi : i < vs.length := by
          have := (List.getElem?_eq_some_iff.1 hj).1
          simpa using this
        have : j = i := by simpa [List.getElem?_range hi] using hj.symm
        subst this
        exact (hp j hi r _ h1 (List.getElem?_eq_getElem hi)).1)
    unfold results
    rw [Array.mapM_eq_mapM_toList]
    simp only [Sem.run_bind, map_eq_pure_bind, Sem.run_pure, Result.andThen]
    erw [hm]
    simp only [Result.andThen, List.size_toArray, List.length_map, List.length_range]
    by_cases h1 : vs.length = 1
    · simp [h1]
    · simp [h1, arrOf]
  · have hi := (List.getElem?_eq_some_iff.1 hv).1
    exact (hp i hi _ v (List.getElem?_eq_getElem (by omega)) hv).2
end Go.Ln
/- A function's contract out of a run of the interpreter, continued: the call as a whole. -/
set_option linter.unusedVariables false
set_option linter.unusedSimpArgs false
set_option linter.unusedSectionVars false
namespace Go.Ln
open Go
variable {w w' : World} {ρ ρ' : Own} {rt rt' : Store}

theorem outs_at {rt : Store} : ∀ {own : List Bool} {vs : List V} {a : Nat} {x : V}, outAt own (outs rt own vs) a = some x → ∃ v, vs[a]? = some v ∧ x = out1 rt v
  | [], vs, a, x, h => by cases vs <;> simp [outs, outAt] at h
  | true :: bs, [], a, x, h => by simp [outs, outAt] at h
  | false :: bs, [], 0, x, h => by simp [outAt] at h
  | false :: bs, [], a + 1, x, h => by
    simp only [outs, outAt] at h
    have : outs rt bs [] = [] := by
      cases bs with
      | nil => rfl
      | cons b _ => cases b <;> rfl
    rw [← this] at h
    obtain ⟨v, hv, _⟩ := outs_at h
    simp at hv
  | true :: bs, v :: vs, 0, x, h => by simp [outs, outAt] at h; exact ⟨v, by simp, h.symm⟩
  | true :: bs, v :: vs, a + 1, x, h => by
    simp only [outs, outAt] at h
    obtain ⟨y, hy, hx⟩ := outs_at h
    exact ⟨y, by simpa using hy, hx⟩
  | false :: bs, v :: vs, 0, x, h => by simp [outAt] at h
  | false :: bs, v :: vs, a + 1, x, h => by
    simp only [outs, outAt] at h
    obtain ⟨y, hy, hx⟩ := outs_at h
    exact ⟨y, by simpa using hy, hx⟩

theorem plain_one {v : V} (h : plainV v = true) : isAggV v = false ∧ notOwn v := by
  cases v <;> simp [plainV] at h <;> exact ⟨rfl, trivial⟩
theorem outCell_one {v : V} : isAggV (outCell rt v) = false := by
  unfold outCell
  split
  · rename_i x hx
    unfold giveC at hx
    split at hx
    · simp only [Option.bind_eq_some_iff] at hx
      obtain ⟨r, _, hx⟩ := hx
      split at hx <;> cases hx
      rfl
    · simp only [Option.bind_eq_some_iff] at hx
      obtain ⟨r, _, hx⟩ := hx
      split at hx
      · split at hx <;> cases hx
        rfl
      · cases hx
    · split at hx
      · rename_i hp
        cases hx
        exact (plain_one hp).1
      · cases hx
  · rfl
theorem cells_out1 {v : V} : cells (out1 rt v) = (cells v).map (outCell rt) := by
  by_cases ha : isAggV v = true
  · cases v <;> simp [isAggV] at ha
    rfl
  · have ha' : isAggV v = false := by simpa using ha
    have : out1 rt v = outCell rt v := by cases v <;> first | rfl | simp [isAggV] at ha
    rw [this, cells_one ha', cells_one outCell_one]
    rfl
/-- An own cell that comes out: a whole root. -/
theorem outCell_own {v : V} (h : ¬ notOwn (outCell rt v)) : (∃ o nv s len r, v = .hs o nv [] s 0 len ∧ rt o = some r ∧ len = r.es.length ∧ s = r.s ∧ outCell rt v = .usl s r.es) ∨
    (∃ o nv s e r, v = .hp o nv [] s 0 0 ∧ rt o = some r ∧ r.es = [e] ∧ s = r.s ∧ (cells e).length = s ∧ outCell rt v = .uptr e) := by
  unfold outCell at h ⊢
  split at h
  · rename_i x hx
    unfold giveC at hx
    split at hx
    · rename_i o nv s off len
      simp only [Option.bind_eq_some_iff] at hx
      obtain ⟨r, hr, hx⟩ := hx
      split at hx
      · rename_i hc
        cases hx
        obtain ⟨rfl, h2, h3⟩ := hc
        exact .inl ⟨o, nv, s, len, r, rfl, hr, h2, h3, rfl⟩
      · cases hx
    · rename_i o nv s i k
      simp only [Option.bind_eq_some_iff] at hx
      obtain ⟨r, hr, hx⟩ := hx
      split at hx
      · rename_i e he
        split at hx
        · rename_i hc
          cases hx
          obtain ⟨rfl, rfl, h2, h3⟩ := hc
          exact .inr ⟨o, nv, s, e, r, rfl, hr, he, h2, h3, rfl⟩
        · cases hx
      · cases hx
    · split at hx
      · rename_i hp
        cases hx
        exact absurd (plain_one hp).2 h
      · cases hx
  · exact absurd trivial h

/-- The labels at the end of a call. -/
def endOwn (ρ : Own) (q : Nat) (R : List NewR) : Own := fun b =>
  match ρ b with
  | none => none
  | some (o, l) => if o = 0 then some (0, l) else if o = q then some (2, l) else (R[o - 1]?).map fun e => (1, (e.1, e.2.1) :: l)
theorem endOwn_none {q R b} (h : ρ b = none) : endOwn ρ q R b = none := by simp [endOwn, h]
theorem endOwn_far {q R b l} (h : ρ b = some (0, l)) : endOwn ρ q R b = some (0, l) := by simp [endOwn, h]
theorem endOwn_res {q R b l} (h : ρ b = some (q, l)) (h0 : q ≠ 0) : endOwn ρ q R b = some (2, l) := by simp [endOwn, h, h0]
theorem endOwn_arg {q R b l j c k r} (h : ρ b = some (1 + j, l)) (hq : 1 + j ≠ q) (hj : R[j]? = some (c, k, r)) : endOwn ρ q R b = some (1, (c, k) :: l) := by
  unfold endOwn
  rw [h]
  simp only
  rw [if_neg (by omega), if_neg hq, show 1 + j - 1 = j by omega, hj]
  rfl
theorem endOwn_inv {q R b n l} (h : endOwn ρ q R b = some (n, l)) : (n = 0 ∧ ρ b = some (0, l)) ∨ (n = 2 ∧ q ≠ 0 ∧ ρ b = some (q, l)) ∨ ∃ j c k r t, n = 1 ∧ l = (c, k) :: t ∧ ρ b = some (1 + j, t) ∧ 1 + j ≠ q ∧ R[j]? = some (c, k, r) := by
  unfold endOwn at h
  split at h
  · cases h
  · rename_i o l' hb
    split at h
    · rename_i h0
      cases h
      subst h0
      exact .inl ⟨rfl, hb⟩
    · rename_i h0
      split at h
      · rename_i hq
        cases h
        subst hq
        exact .inr (.inl ⟨rfl, h0, hb⟩)
      · rename_i hq
        simp only [Option.map_eq_some_iff] at h
        obtain ⟨⟨c, k, r⟩, he, h⟩ := h
        cases h
        exact .inr (.inr ⟨o - 1, c, k, r, l', rfl, rfl, by rw [show 1 + (o - 1) = o by omega]; exact hb, by omega, he⟩)

theorem tup_cell {v : V} (h : (cells v).all cellV = true) : isTup v = false := by
  cases v <;> first | rfl | simp [cells, cellV] at h

structure Fits (fn : Func) (c : Code) (n : Nat) : Prop where
  body : fn.body = some c
  name : (fn.name == "runtime.NumGoroutine") = false
  args : n ≤ fn.ntmps

theorem run_enter {P : Program} {f : FuncId} {fn : Func} {c : Code} {n : Nat} (hf : P.funcs[f]? = some fn) (F : Fits fn c n) (us : Array Value) (w : World) : (callFunc f us).run P w = .ok (.enter f us) w := by
  have := F.name
  simp at this
  simp [callFunc, hf, F.body, this]

def ownN (vs : List V) : Nat := (inst1s 1 0 vs).2.length

theorem enter_rel {P : Program} {G : Ground} {vs : List V} {us : List Value} (ha : ArgsOk w ρ vs us) (hi : Inn w ρ) (hg : G.ok w ρ) {fn : Func} (hn : vs.length ≤ fn.ntmps) :
    Rel G (ownN vs) w (placeOwn ρ 1 1 (inst1s 1 0 vs).2) w (placeOwn ρ 1 1 (inst1s 1 0 vs).2) (enter fn vs).2 { tmps := us.toArray ++ Array.replicate (fn.ntmps - us.toArray.size) undef, defers := [] } := by
  have hp : ∃ p : Nat → Value, ∀ (a : Nat) u, us[a]? = some u → u = p a := ⟨fun a => us.getD a undef, fun a u h => by simp [List.getD_eq_getElem?_getD, h]⟩
  obtain ⟨p, hp⟩ := hp
  have pl := placeAll (N := fun _ _ => True) (w := w) (ρ := ρ) (rt := rt0) (q := 1) (id := 1) (vs := vs) (p := p) (by intro o r h; cases h) hi.inj (by intro o r h; cases h)
    ⟨fun b o l h => ⟨(hi.lab b o l h).1, .inl (hi.lab b o l h).2⟩, rfl, hi.f⟩ (by omega) rfl (by omega) (fun _ _ _ => rfl) (fun _ _ _ _ => trivial) (fun c v hv => by
      obtain ⟨u, hu⟩ : ∃ u, us[c]? = some u := ⟨_, List.getElem?_eq_getElem (by rw [← ha.1]; exact (List.getElem?_eq_some_iff.1 hv).1)⟩
      have := ha.2 c v u hv hu
      rw [hp c u hu] at this
      exact this)
  obtain ⟨s1, s2, s3, s4⟩ := inst1s_spec (vs := vs) (id := 1) (c := 0)
  have e1 : (enter fn vs).2.tm = (inst1s 1 0 vs).1 ++ List.replicate (fn.ntmps - vs.length) .und := rfl
  have e2 : (enter fn vs).2.rt = addRoots rt0 1 (inst1s 1 0 vs).2 := rfl
  have e3 : (enter fn vs).2.nx = 1 + (inst1s 1 0 vs).2.length := rfl
  have hle : ∀ b i l, placeOwn ρ 1 1 (inst1s 1 0 vs).2 b = some (i, l) → i ≤ ownN vs := fun b i l h => by
    rcases placeOwn_inv h with ⟨h1, h2⟩ | ⟨c, k, j, h1, h2, h3⟩
    · rcases (hi.lab b i l h1).2 with h | h
      · omega
      · exact absurd h h2
    · obtain ⟨r, hr⟩ := posR_get h2
      have := (List.getElem?_eq_some_iff.1 hr).1
      unfold ownN
      omega
  refine ⟨?_, ?_, pl.inj, ?_, ?_, ?_, ?_, ?_, Wk.refl, fun b hb _ => ⟨hb, rfl⟩, fun b l hb => ⟨hb, rfl⟩, fun b l h => h, rfl, ?_, fun i b n _ h1 h2 _ => ⟨h1, h2⟩, hle, ?_⟩
  · rw [e1, e2]
    refine ⟨by simp [s1, ha.1], fun i v u hv hu => ?_⟩
    by_cases hi : i < vs.length
    · rw [List.getElem?_append_left (by rw [s1]; exact hi)] at hv
      simp only [Array.getElem?_append, List.size_toArray, ← ha.1, hi, if_true, List.getElem?_toArray] at hu
      rw [hp i u hu]
      exact (pl.val i v hv).1
    · rw [List.getElem?_append_right (by rw [s1]; omega)] at hv
      simp only [Array.getElem?_append, List.size_toArray, ← ha.1, hi, if_false, Array.getElem?_replicate] at hu
      rw [List.getElem?_replicate] at hv
      split at hv <;> cases hv
      split at hu <;> cases hu
      exact Slot.mk1 rfl (.und _)
  · rw [e2]; exact pl.rok
  · rw [e2]; exact pl.rtn
  · rw [e2]; exact pl.lab
  · rw [e2, e3]
    intro o ho
    unfold past at ho
    cases hr : addRoots rt0 1 (inst1s 1 0 vs).2 o with
    | none => rfl
    | some r =>
      rcases pl.nv o r hr with h | ⟨_, h⟩
      · cases h
      · omega
  · rw [e3]; intro o ho; unfold past at ho; omega
  · rw [e1, e2, e3]
    intro i v hv
    by_cases hi : i < vs.length
    · rw [List.getElem?_append_left (by rw [s1]; exact hi)] at hv
      exact (pl.val i v hv).2 _ fun o h1 h2 h3 => by unfold past at h3; omega
    · rw [List.getElem?_append_right (by rw [s1]; omega)] at hv
      rw [List.getElem?_replicate] at hv
      split at hv <;> cases hv
      simp [noNew]
  · exact ⟨hg.1, fun b hb => placeOwn_none (hg.2.1 b hb), hg.2.2⟩
  · rw [e3]; unfold past; unfold ownN at *; intro i h1 h2; omega
end Go.Ln
/- A function's contract out of a run of the interpreter: the end of the call. -/
set_option linter.unusedVariables false
set_option linter.unusedSimpArgs false
set_option linter.unusedSectionVars false
namespace Go.Ln
open Go
variable {w w' : World} {ρ ρ' : Own} {rt rt' : Store}

theorem leave_rel {P : Program} {E : Env} (A : Agree P E) {G : Ground} {vs : List V} {us : List Value} (ha : ArgsOk w ρ vs us) (hi : Inn w ρ) {fn : Func} {own : List Bool} {st : St} {a : Act}
    (R : Rel G (ownN vs) w (placeOwn ρ 1 1 (inst1s 1 0 vs).2) w' ρ' st a) {r : V} {os : List V} (h : finish E fn own (enter fn vs).1 st = some (r, os)) :
    ∃ u, (results fn a.tmps).run P w' = .ok u w' ∧ ∃ ρe, Aft w ρ w' ρe ∧ ResOk w' ρe r u ∧ OutsOk w ρ w' ρe own vs us os := by
  simp only [finish, Option.bind_eq_some_iff, Option.map_eq_some_iff] at h
  obtain ⟨rs, hrs, ⟨l, rt2⟩, hab, h⟩ := h
  cases h
  obtain ⟨p, hrun, hslot⟩ := results_run A R.rok R.inj rfl R.tm hrs
  obtain ⟨s1, s2, s3, s4⟩ := inst1s_spec (vs := vs) (id := 1) (c := 0)
  have hnl : ownN vs < st.nx := Nat.lt_of_not_le fun h => R.nl (ownN vs) (Nat.le_refl _) h
  have hq : st.rt st.nx = none := R.fresh st.nx (Nat.le_refl _)
  have hq0 : st.nx ≠ 0 := by omega
  have hrn : noNews (NewOf (past st.nx) st.rt) rs := noNews_iff.2 fun v hv => by
    obtain ⟨i, hi⟩ := List.mem_iff_getElem?.1 hv
    obtain ⟨hl, hg⟩ := resultsV_get hrs
    have := hg i _ v (List.getElem?_eq_getElem (by have := (List.getElem?_eq_some_iff.1 hi).1; omega)) hi
    revert this
    generalize fn.results.toList[i]'_ = rv
    intro this
    cases rv with
    | tmp t => exact R.tmn t v this
    | cell b t =>
      simp only [result1, Option.bind_eq_some_iff] at this
      obtain ⟨ti, ht, pv, hpv, cs, hc, this⟩ := this
      split at this
      · exact mkVal_nn this (take_nn (from_nn R.rtn (fun o r hr => by
          rintro (h | ⟨r', h, h2⟩)
          · rw [R.fresh o h] at hr; cases hr
          · rw [hr] at h; cases h; omega) (R.tmn b pv hpv) hc))
      · cases this
  obtain ⟨ρ2, ab, hl, hres⟩ := absorbEach_ok (q := st.nx) (i0 := 0) (g := p) (N := NewOf (past st.nx) st.rt) R.rok R.inj R.rtn R.lab (fun i j l _ h => hq0 h) hq0 hq hslot hrn hab
  have hR : (inst1s 1 0 vs).2.length < st.nx := hnl
  have hlow : ∀ {j : Nat} {e : NewR}, (inst1s 1 0 vs).2[j]? = some e → 1 + j ≠ st.nx := fun hj => by
    have := (List.getElem?_eq_some_iff.1 hj).1
    omega
  have K : Keep0 (fun _ _ => True) w' ρ2 rt2 w' (endOwn ρ2 st.nx (inst1s 1 0 vs).2) rt0 := ⟨fun b hb _ => ⟨endOwn_none hb, rfl⟩, fun _ _ _ h _ => absurd trivial h⟩
  refine ⟨_, hrun, endOwn ρ2 st.nx (inst1s 1 0 vs).2, ⟨R.wk, fun b hb hlt => ?_, fun b l hb => ?_, fun b l hb => ?_, ?_, fun b o l hb => ?_⟩, ?_, ?_⟩
  · have h1 := R.fr b (placeOwn_none hb) hlt
    have h2 := ab.keep.k1 b h1.1 (Nat.lt_of_lt_of_le hlt R.wk.size)
    exact ⟨endOwn_none h2.1, h1.2⟩
  · have h1 := R.k0 b l (placeOwn_other hb (by omega))
    have h2 := ab.keep.k0 b l h1.1
    exact ⟨endOwn_far h2.1, h1.2⟩
  · rcases endOwn_inv hb with ⟨_, h1⟩ | ⟨h0, _⟩ | ⟨_, _, _, _, _, h0, _⟩
    · rcases placeOwn_inv (R.f0 b l (ab.f0 b l h1)) with ⟨h2, _⟩ | ⟨_, _, _, _, _, h3⟩
      · exact h2
      · omega
    · cases h0
    · cases h0
  · rintro b b' ⟨n, l⟩ h h'
    rcases endOwn_inv h with ⟨e, h1⟩ | ⟨e, e0, h1⟩ | ⟨j, c, k, r, t, e, rfl, h1, _, hj⟩ <;> rcases endOwn_inv h' with ⟨e', h1'⟩ | ⟨e', e0', h1'⟩ | ⟨j', c', k', r', t', e', e1', h1', _, hj'⟩ <;> (try omega)
    · exact ab.inj b b' _ h1 h1'
    · exact ab.inj b b' _ h1 h1'
    · cases e1'
      have := s4 j j' _ _ hj hj' rfl rfl
      subst this
      exact ab.inj b b' _ h1 h1'
  · rcases endOwn_inv hb with ⟨e, h1⟩ | ⟨e, e0, h1⟩ | ⟨j, c, k, r, t, e, _, h1, _, hj⟩
    · exact ⟨(ab.lab.l b 0 l h1).1, .inl e⟩
    · exact ⟨(ab.lab.l b _ l h1).1, .inr (.inr e)⟩
    · exact ⟨(ab.lab.l b _ t h1).1, .inr (.inl e)⟩
  · have hcell : ∀ (c : Nat) v, l[c]? = some v → Slot w' (endOwn ρ2 st.nx (inst1s 1 0 vs).2) rt0 (fun k => some (2, [(c, k)])) v (p c) ∧ nh v ∧ isTup v = false := by
      intro c v hv
      obtain ⟨y, hy⟩ : ∃ y, rs[c]? = some y := ⟨_, List.getElem?_eq_getElem (by have := (List.getElem?_eq_some_iff.1 hv).1; omega)⟩
      obtain ⟨⟨g, hg, hs⟩, h2, _, _, h5⟩ := hres c v y hv hy
      refine ⟨⟨g, hg, fun k x hx => ?_⟩, h2, tup_cell h5⟩
      have := (hs k x hx).mono0 K (fun l => (2, l.2)) (fun l => l.1 = st.nx) (fun l i k _ => rfl) (fun l i k h => h) (fun b l hl hb => ⟨by
        obtain ⟨lo, ll⟩ := l
        simp only at hl
        subst hl
        exact endOwn_res hb hq0, rfl⟩) (fun l hl => by cases hl; rfl) (nh_noNew (nh_cell h2 hx))
      simpa using this
    rw [← hl]
    by_cases h1 : l.length = 1
    · obtain ⟨v, rfl⟩ : ∃ v, l = [v] := by
        match l, h1 with
        | [v], _ => exact ⟨v, rfl⟩
      have hv := hcell 0 v rfl
      refine ⟨p, by simp [tupOf, hv.2.2], fun c x hx => ?_⟩
      have hc : comps v = [v] := by cases v <;> first | rfl | (simp [isTup] at hv)
      simp only [tupOf, hc] at hx
      exact hcell c x hx
    · have ht : tupOf l = .tup l := by
        match l, h1 with
        | [], _ => rfl
        | _ :: _ :: _, _ => rfl
        | [v], h => exact absurd rfl h
      rw [ht]
      exact ⟨p, by simp [isTup, comps, h1], fun c x hx => hcell c x hx⟩
  · intro a v u x hv hu hx g hug k y z hy hz hno
    obtain ⟨av, hav, rfl⟩ := outs_at hx
    rw [cells_out1, List.getElem?_map] at hy
    obtain ⟨c0, hc0, rfl⟩ := Option.map_eq_some_iff.1 hy
    obtain ⟨y', hy', _, hlen, hcc⟩ := s3 a v hv
    have : y' = av := by
      have : (enter fn vs).1 = (inst1s 1 0 vs).1 := rfl
      rw [this] at hav
      rw [hav] at hy'
      cases hy'; rfl
    subst this
    have hown : ∃ j : Nat, (inst1s 1 0 vs).2[j]? = some (a, k, rootOf z) ∧ c0 = handleOf (1 + j) z ∧ ¬ notOwn z := by
      rcases hcc k z hz with ⟨h1, h2⟩ | ⟨h1, j, h2, h3⟩
      · rw [h2] at hc0
        cases hc0
        exfalso
        rcases outCell_own hno with ⟨o, nv, s, len, r, rfl, _⟩ | ⟨o, nv, s, e, r, rfl, _⟩
        · have := (ha.2 a v u hv hu).2
          have := nh_cell this hz
          simp [nh] at this
        · have := (ha.2 a v u hv hu).2
          have := nh_cell this hz
          simp [nh] at this
      · rw [h3] at hc0
        cases hc0
        exact ⟨j, by simpa using h2, rfl, h1⟩
    obtain ⟨j, hj, rfl, hzo⟩ := hown
    have hjm := (List.getElem?_eq_some_iff.1 hj).1
    obtain ⟨⟨g', hg', hsl⟩, hnz⟩ := ha.2 a v u hv hu
    have hgk : ∀ k x, (cells v)[k]? = some x → g k = g' k := by
      intro k x hx
      rw [hug] at hg'
      unfold pack at hg'
      split at hg'
      · have hk := (List.getElem?_eq_some_iff.1 hx).1
        injection hg' with hg'
        have h1 : (arrOf (cells v).length g)[k]? = some (g k) := arrOf_get hk
        rw [hg', arrOf_get hk] at h1
        exact (Option.some.inj h1).symm
      · rename_i hag
        have hk := (List.getElem?_eq_some_iff.1 hx).1
        rw [cells_one (by simpa using hag)] at hk
        simp at hk
        subst hk
        exact hg'
    have hrz := hsl k z hz
    rw [← hgk k z hz] at hrz
    generalize g k = uv at hrz ⊢
    have hpos : posR (inst1s 1 0 vs).2 a k = some j := by
      obtain ⟨j', h'⟩ := posR_some hj
      obtain ⟨r', h''⟩ := posR_get h'
      rw [h', s4 j' j _ _ h'' hj rfl rfl]
    have hlab : ∀ b t, ρ b = some (1, (a, k) :: t) → placeOwn ρ 1 1 (inst1s 1 0 vs).2 b = some (1 + j, t) := fun b t hb => placeOwn_moved hb hpos
    have hrt2 : ∀ r, rt2 (1 + j) = some r → ∃ r0, st.rt (1 + j) = some r0 ∧ r.nv = r0.nv := fun r hr => by
      obtain ⟨r0, h0, h1, _⟩ := ab.nv (1 + j) r hr
      exact ⟨r0, h0, h1⟩
    have hkeep : ∀ r b n, rt2 (1 + j) = some r → ρ b = some (1, [(a, k)]) → Blk w b n → ρ2 b = some (1 + j, []) ∧ Blk w' b n := fun r b n hr hb hn => by
      obtain ⟨r0, h0, h1⟩ := hrt2 r hr
      have h2 := R.am (1 + j) b n (by omega) (hlab b [] hb) hn (by rw [h0]; rfl)
      have hlv : live rt2 (1 + j) r0.nv [] := by simp [live, look, valid, hr, rowAt]
      exact (ab.keep.k2 (1 + j) r0.nv [] (by
        rintro (h | ⟨r2, h, h3⟩)
        · unfold past at h; omega
        · rw [h0] at h; cases h; omega) hlv).2 b n h2.1 h2.2
    have hmove : ∀ {e x : V} {i kk : Nat} {r : Root} {yv : Value}, rt2 (1 + j) = some r → r.es[i]? = some e → (cells e)[kk]? = some x → RepV w' ρ2 rt2 (some (1 + j, [(i, kk)])) x yv →
        RepV w' (endOwn ρ2 st.nx (inst1s 1 0 vs).2) rt0 (some (Loc.at (1, [(a, k)]) i kk)) x yv := by
      intro e x i kk r yv hr he hx hxv
      have := hxv.mono0 K (fun l => (1, (a, k) :: l.2)) (fun l => l.1 = 1 + j) (fun l i k _ => rfl) (fun l i k h => h) (fun b l hl hb => ⟨by
        obtain ⟨lo, ll⟩ := l
        simp only at hl
        subst hl
        exact endOwn_arg hb (hlow hj) hj, rfl⟩) (fun l hl => by cases hl; rfl) (nh_noNew (nh_cell (nhs_get (ab.rtn _ r hr) he) hx))
      simpa [Loc.at] using this
    rcases own_or z with h | ⟨s, es, rfl⟩ | ⟨e, rfl⟩
    · exact absurd h hzo
    · rcases outCell_own hno with ⟨o, nv, s', len, r, heq, hr, hln, hs', hout⟩ | ⟨o, nv, s', e, r, heq, _⟩
      · simp only [handleOf, V.hs.injEq] at heq
        obtain ⟨rfl, rfl, _, rfl, _, rfl⟩ := heq
        rw [hout]
        refine ⟨by simpa [nh] using ab.rtn _ r hr, ?_, fun b nb hb hnb => (endOwn_arg (hkeep r b nb hr hb hnb).1 (hlow hj) hj)⟩
        · cases hrz with
          | usl0 =>
            have : r.es = [] := List.eq_nil_of_length_eq_zero (by simpa using hln.symm)
            rw [this]
            exact .usl0 _ _ _
          | usl _ _ _ b A c arr T gg hρ hb hl' hA hcap hs hc h =>
            obtain ⟨h1, arr', T', h2, h3⟩ := hkeep r b arr.size hr hρ ⟨arr, T, hb, rfl⟩
            have e1 : endOwn ρ2 st.nx (inst1s 1 0 vs).2 b = some (1, [(a, k)]) := endOwn_arg h1 (hlow hj) hj
            rw [show es.length = r.es.length from hln]
            rcases ab.rok (1 + j) r hr with h0 | ⟨b', arr2, T2, g2, q1, q2, q3, q4, q5⟩
            · rw [h0]
              exact .usl _ _ [] b A c arr' T' (fun _ _ => undef) e1 h2 (by simp) hA (by rw [h3]; exact hcap) (by simp) (by simp) (by simp)
            · have := ab.inj b b' _ h1 q1
              subst this
              rw [h2] at q2
              cases q2
              exact .usl _ _ _ b A c arr' T' g2 e1 h2 (by rw [← hln]; exact hl') hA (by rw [h3]; exact hcap) (by rw [hs']; exact q3) (by rw [hs']; exact q4) (fun i e k' x he hx => hmove hr he hx (q5 i e k' x he hx))
      · simp [handleOf] at heq
    · rcases outCell_own hno with ⟨o, nv, s', len, r, heq, _⟩ | ⟨o, nv, s', e2, r, heq, hr, hes, hs', hce, hout⟩
      · simp [handleOf] at heq
      · simp only [handleOf, V.hp.injEq] at heq
        obtain ⟨rfl, rfl, _, rfl, _, _⟩ := heq
        rw [hout]
        cases hrz with
        | uptr _ _ b arr T gg hρ hb hc h =>
          obtain ⟨h1, arr', T', h2, h3⟩ := hkeep r b arr.size hr hρ ⟨arr, T, hb, rfl⟩
          have e1 : endOwn ρ2 st.nx (inst1s 1 0 vs).2 b = some (1, [(a, k)]) := endOwn_arg h1 (hlow hj) hj
          refine ⟨by have := ab.rtn _ r hr; rw [hes] at this; simpa [nh, nhs] using this, ?_, fun b2 nb hb2 hnb => endOwn_arg (hkeep r b2 nb hr hb2 hnb).1 (hlow hj) hj⟩
          · rcases ab.rok (1 + j) r hr with h0 | ⟨b', arr2, T2, g2, q1, q2, q3, q4, q5⟩
            · rw [hes] at h0; cases h0
            · have := ab.inj b b' _ h1 q1
              subst this
              rw [h2] at q2
              cases q2
              refine .uptr _ _ b arr' T' (g2 0) e1 h2 (fun kk x hx => ?_) (fun kk x hx => ?_)
              · have := q4 0 e2 kk x (by rw [hes]; rfl) hx
                simpa using this
              · exact hmove hr (i := 0) (by rw [hes]; rfl) hx (q5 0 e2 kk x (by rw [hes]; rfl) hx)
end Go.Ln
/- An operation looks at, and turns, the rows alone that its operands lead to. -/
set_option linter.unusedVariables false
set_option linter.unusedSimpArgs false
set_option linter.unusedSectionVars false
namespace Go.Ln
open Go

def Ag (H : Nat → Prop) (rt rt2 : Store) : Prop := ∀ o, H o → rt2 o = rt o
/-- What an operation has turned, at another store. -/
def Lk (H : Nat → Prop) (rt rt1 rt2 rt3 : Store) : Prop := ∀ o, (H o → rt3 o = rt1 o) ∧ (¬ H o → rt3 o = rt2 o ∧ rt1 o = rt o)

variable {H : Nat → Prop} {rt rt1 rt2 rt3 : Store}

theorem Lk.refl (h : Ag H rt rt2) : Lk H rt rt rt2 rt2 := fun o => ⟨h o, fun _ => ⟨rfl, rfl⟩⟩
theorem Lk.ag (h : Lk H rt rt1 rt2 rt3) : Ag H rt1 rt3 := fun o ho => (h o).1 ho
theorem Lk.trans {a b : Store} (h : Lk H rt rt1 rt2 rt3) (h' : Lk H rt1 a rt3 b) : Lk H rt a rt2 b :=
  fun o => ⟨fun ho => (h' o).1 ho, fun ho => ⟨((h' o).2 ho).1.trans ((h o).2 ho).1, ((h' o).2 ho).2.trans ((h o).2 ho).2⟩⟩
theorem Lk.upd {o : Nat} {r : Option Root} (ho : H o) (h : Lk H rt rt1 rt2 rt3) : Lk H rt (upd rt1 o r) rt2 (upd rt3 o r) := fun x => by
  by_cases hx : x = o
  · subst hx
    exact ⟨fun _ => by simp [Ln.upd], fun h => absurd ho h⟩
  · simp only [Ln.upd, if_neg hx]
    exact h x

theorem valid_ag (h : Ag H rt rt2) {o nv : Nat} {p} (ho : H o) : valid rt2 o nv p = valid rt o nv p := by simp [valid, h o ho]
theorem look_ag (h : Ag H rt rt2) {o nv : Nat} {p} (ho : H o) : look rt2 o nv p = look rt o nv p := by simp [look, valid_ag h ho]
theorem from_ag (h : Ag H rt rt2) {v : V} (hv : ∀ o ∈ ids v, H o) : from_ rt2 v = from_ rt v := by
  cases v with
  | hp o nv p s i k => simp [from_, valid_ag h (hv o (by simp [ids]))]
  | _ => rfl
theorem alive_ag (h : Ag H rt rt2) {v : V} (hv : ∀ o ∈ ids v, H o) : alive rt2 v = alive rt v := by
  cases v with
  | hp o nv p s i k => simp [alive, look_ag h (hv o (by simp [ids]))]
  | hs o nv p s i k => simp [alive, look_ag h (hv o (by simp [ids]))]
  | _ => rfl
theorem share_ag (h : Ag H rt rt2) {v : V} (hv : ∀ o ∈ ids v, H o) : share rt2 v = share rt v := by
  cases v with
  | hp o nv p s i k => simp [share, look_ag h (hv o (by simp [ids]))]
  | hs o nv p s i k => simp [share, look_ag h (hv o (by simp [ids]))]
  | _ => rfl
theorem idss_mem {o : Nat} : ∀ {vs : List V}, o ∈ idss vs ↔ ∃ v ∈ vs, o ∈ ids v
  | [] => by simp [idss]
  | v :: vs => by simp [idss, @idss_mem o vs]
theorem shares_ag (h : Ag H rt rt2) : ∀ {vs : List V}, (∀ o ∈ idss vs, H o) → shares rt2 vs = shares rt vs
  | [], _ => rfl
  | v :: vs, hv => by
    simp only [idss, List.mem_append] at hv
    simp only [shares, share_ag h fun o ho => hv o (.inl ho), shares_ag h fun o ho => hv o (.inr ho)]
theorem share1_ag (h : Ag H rt rt2) {v : V} (hv : ∀ o ∈ ids v, H o) : share1 rt2 v = share1 rt v := by
  cases v <;> first | exact share_ag h hv | (simp only [share1]; rw [shares_ag h (by simpa [ids] using hv)])
theorem giveC_ag (h : Ag H rt rt2) {v : V} (hv : ∀ o ∈ ids v, H o) : giveC rt2 v = giveC rt v := by
  cases v with
  | hp o nv p s i k => cases p <;> first | rfl | simp [giveC, h o (hv o (by simp [ids]))]
  | hs o nv p s i k => cases p <;> first | rfl | simp [giveC, h o (hv o (by simp [ids]))]
  | _ => rfl
theorem giveCs_ag (h : Ag H rt rt2) : ∀ {vs : List V}, (∀ o ∈ idss vs, H o) → giveCs rt2 vs = giveCs rt vs
  | [], _ => rfl
  | v :: vs, hv => by
    simp only [idss, List.mem_append] at hv
    simp only [giveCs, giveC_ag h fun o ho => hv o (.inl ho), giveCs_ag h fun o ho => hv o (.inr ho)]
theorem give_ag (h : Ag H rt rt2) {v : V} (hv : ∀ o ∈ ids v, H o) : give rt2 v = give rt v := by
  cases v <;> first | exact giveC_ag h hv | (simp only [give]; rw [giveCs_ag h (by simpa [ids] using hv)])
theorem argsV_ag (h : Ag H rt rt2) : ∀ {own : List Bool} {vs : List V}, (∀ o ∈ idss vs, H o) → argsV rt2 own vs = argsV rt own vs
  | own, [], _ => by cases own <;> rfl
  | [], v :: vs, hv => by
    simp only [idss, List.mem_append] at hv
    simp only [argsV, share1_ag h fun o ho => hv o (.inl ho), argsV_ag h (own := []) fun o ho => hv o (.inr ho)]
  | true :: own, v :: vs, hv => by
    simp only [idss, List.mem_append] at hv
    simp only [argsV, give_ag h fun o ho => hv o (.inl ho), argsV_ag h (own := own) fun o ho => hv o (.inr ho)]
  | false :: own, v :: vs, hv => by
    simp only [idss, List.mem_append] at hv
    simp only [argsV, share1_ag h fun o ho => hv o (.inl ho), argsV_ag h (own := own) fun o ho => hv o (.inr ho)]

theorem takeOut_lk (h : Ag H rt rt2) {o : Nat} (ho : H o) {r : Root} {p} (e : takeOut rt o r p = some rt1) : ∃ rt3, takeOut rt2 o r p = some rt3 ∧ Lk H rt rt1 rt2 rt3 := by
  unfold takeOut at e ⊢
  split at e
  · cases e
    exact ⟨_, rfl, (Lk.refl h).upd ho⟩
  · simp only [Option.bind_eq_some_iff, Option.map_eq_some_iff] at e
    obtain ⟨y, hy, z, hz, es, hes, rfl⟩ := e
    exact ⟨_, by simp [hy, hz, hes], (Lk.refl h).upd ho⟩

theorem absorbCell_lk (h : Ag H rt rt2) {v x : V} (hv : ∀ o ∈ ids v, H o) (e : absorbCell rt v = some (x, rt1)) : ∃ rt3, absorbCell rt2 v = some (x, rt3) ∧ Lk H rt rt1 rt2 rt3 := by
  have pl : ∀ {w : V}, (if plainV w then some (w, rt) else none) = some (x, rt1) → ∃ rt3, (if plainV w then some (w, rt2) else none) = some (x, rt3) ∧ Lk H rt rt1 rt2 rt3 := by
    intro w e
    split at e
    · rename_i hp
      cases e
      exact ⟨rt2, by simp [hp], Lk.refl h⟩
    · cases e
  cases v with
  | hp o nv p s i k =>
    have ho : H o := hv o (by simp [ids])
    simp only [absorbCell, Option.bind_eq_some_iff] at e
    obtain ⟨r, hr, y, hy, e⟩ := e
    split at e
    · rename_i z hz
      split at e
      · rename_i hc
        simp only [Option.map_eq_some_iff, Prod.mk.injEq] at e
        obtain ⟨rt', ht, rfl, rfl⟩ := e
        obtain ⟨rt3, h3, h4⟩ := takeOut_lk h ho ht
        exact ⟨rt3, by simp [absorbCell, valid_ag h ho, hr, hy, hz, hc, h3], h4⟩
      · cases e
    · cases e
  | hs o nv p s off len =>
    have ho : H o := hv o (by simp [ids])
    simp only [absorbCell, Option.bind_eq_some_iff] at e
    obtain ⟨r, hr, y, hy, e⟩ := e
    split at e
    · rename_i hc
      simp only [Option.map_eq_some_iff, Prod.mk.injEq] at e
      obtain ⟨rt', ht, rfl, rfl⟩ := e
      obtain ⟨rt3, h3, h4⟩ := takeOut_lk h ho ht
      refine ⟨rt3, ?_, h4⟩
      simp only [absorbCell, valid_ag h ho, hr, hy, Option.bind_some]
      rw [if_pos hc, h3]
      rfl
    · cases e
  | _ => (simp only [absorbCell] at e ⊢; exact pl e)
theorem absorbs_lk : ∀ {vs xs : List V} {rt rt1 rt2 : Store}, Ag H rt rt2 → (∀ o ∈ idss vs, H o) → absorbs rt vs = some (xs, rt1) → ∃ rt3, absorbs rt2 vs = some (xs, rt3) ∧ Lk H rt rt1 rt2 rt3
  | [], xs, rt, rt1, rt2, h, _, e => by
    simp only [absorbs, Option.some.injEq, Prod.mk.injEq] at e
    obtain ⟨rfl, rfl⟩ := e
    exact ⟨rt2, rfl, Lk.refl h⟩
  | v :: vs, xs, rt, rt1, rt2, h, hv, e => by
    simp only [idss, List.mem_append] at hv
    simp only [absorbs, Option.bind_eq_some_iff, Option.map_eq_some_iff, Prod.mk.injEq] at e
    obtain ⟨⟨x, ra⟩, hx, ⟨ys, rb⟩, hy, rfl, rfl⟩ := e
    obtain ⟨r3, h3, k3⟩ := absorbCell_lk h (fun o ho => hv o (.inl ho)) hx
    obtain ⟨r4, h4, k4⟩ := absorbs_lk k3.ag (fun o ho => hv o (.inr ho)) hy
    exact ⟨r4, by simp only [absorbs, h3, Option.bind_some]; rw [h4]; rfl, k3.trans k4⟩
theorem absorb_lk (h : Ag H rt rt2) {v x : V} (hv : ∀ o ∈ ids v, H o) (e : absorb rt v = some (x, rt1)) : ∃ rt3, absorb rt2 v = some (x, rt3) ∧ Lk H rt rt1 rt2 rt3 := by
  cases v with
  | agg cs =>
    simp only [absorb, Option.map_eq_some_iff, Prod.mk.injEq] at e
    obtain ⟨⟨xs, r1⟩, hx, rfl, rfl⟩ := e
    obtain ⟨r3, h3, k3⟩ := absorbs_lk h (by simpa [ids] using hv) hx
    exact ⟨r3, by simp [absorb, h3], k3⟩
  | _ => exact absorbCell_lk h hv e
theorem absorbEach_lk : ∀ {vs xs : List V} {rt rt1 rt2 : Store}, Ag H rt rt2 → (∀ o ∈ idss vs, H o) → absorbEach rt vs = some (xs, rt1) → ∃ rt3, absorbEach rt2 vs = some (xs, rt3) ∧ Lk H rt rt1 rt2 rt3
  | [], xs, rt, rt1, rt2, h, _, e => by
    simp only [absorbEach, Option.some.injEq, Prod.mk.injEq] at e
    obtain ⟨rfl, rfl⟩ := e
    exact ⟨rt2, rfl, Lk.refl h⟩
  | v :: vs, xs, rt, rt1, rt2, h, hv, e => by
    simp only [idss, List.mem_append] at hv
    simp only [absorbEach, Option.bind_eq_some_iff, Option.map_eq_some_iff, Prod.mk.injEq] at e
    obtain ⟨⟨x, ra⟩, hx, ⟨ys, rb⟩, hy, rfl, rfl⟩ := e
    obtain ⟨r3, h3, k3⟩ := absorb_lk h (fun o ho => hv o (.inl ho)) hx
    obtain ⟨r4, h4, k4⟩ := absorbEach_lk k3.ag (fun o ho => hv o (.inr ho)) hy
    exact ⟨r4, by simp only [absorbEach, h3, Option.bind_some]; rw [h4]; rfl, k3.trans k4⟩

theorem takeEls_lk (h : Ag H rt rt2) {v : V} {xs : List V} (hv : ∀ o ∈ ids v, H o) (e : takeEls rt v = some (xs, rt1)) : ∃ rt3, takeEls rt2 v = some (xs, rt3) ∧ Lk H rt rt1 rt2 rt3 := by
  cases v with
  | isl n es =>
    simp only [takeEls, Option.some.injEq, Prod.mk.injEq] at e
    obtain ⟨rfl, rfl⟩ := e
    exact ⟨rt2, rfl, Lk.refl h⟩
  | hs o nv p s off len =>
    have ho : H o := hv o (by simp [ids])
    simp only [takeEls, Option.bind_eq_some_iff] at e
    obtain ⟨y, hy, e⟩ := e
    simp only [takeEls, look_ag h ho, hy, Option.bind_some]
    split at e
    · rename_i hc
      rw [if_pos hc]
      split at e
      · cases e
      · rename_i hs
        rw [if_neg hs]
        split at e
        · rename_i hf
          rw [if_pos hf]
          cases e
          exact ⟨rt2, rfl, Lk.refl h⟩
        · rename_i hf
          rw [if_neg hf]
          split at e
          · rename_i hq
            rw [if_pos hq]
            cases e
            exact ⟨_, rfl, (Lk.refl h).upd ho⟩
          · cases e
    · cases e
  | _ => simp [takeEls] at e
end Go.Ln
/- An operation looks at, and turns, the rows alone that its operands lead to: calls, stores, all. -/
set_option linter.unusedVariables false
set_option linter.unusedSimpArgs false
set_option linter.unusedSectionVars false
namespace Go.Ln
open Go
variable {H : Nat → Prop} {rt rt1 rt2 rt3 : Store}

theorem lentOf_sub {o : Nat} : ∀ {own : List Bool} {vs : List V}, o ∈ lentOf own vs → o ∈ idss vs
  | own, [], h => by cases own with
    | nil => simp [lentOf] at h
    | cons b _ => cases b <;> simp [lentOf] at h
  | [], v :: vs, h => by
    simp only [lentOf, List.mem_append] at h
    simp only [idss, List.mem_append]
    exact h.imp id lentOf_sub
  | true :: own, v :: vs, h => by
    simp only [lentOf] at h
    simp only [idss, List.mem_append]
    exact .inr (lentOf_sub h)
  | false :: own, v :: vs, h => by
    simp only [lentOf, List.mem_append] at h
    simp only [idss, List.mem_append]
    exact h.imp id lentOf_sub
theorem hid_ids {v x : V} {k o : Nat} (hx : (cells v)[k]? = some x) (h : hid x = some o) : o ∈ ids v := by
  have hxi : o ∈ ids x := by cases x <;> simp [hid] at h <;> simp [ids, h]
  by_cases ha : isAggV v = true
  · cases v <;> simp [isAggV] at ha
    simp only [ids]
    exact idss_mem.2 ⟨x, List.mem_of_getElem? hx, hxi⟩
  · rw [cells_one (by simpa using ha)] at hx
    cases k <;> simp at hx
    subst hx
    exact hxi
theorem given_sub {own : List Bool} {vs : List V} {o : Nat} {x : Nat × Nat} (h : lookG (givenOf 0 own vs) o = some x) : o ∈ idss vs := by
  obtain ⟨a, v, k, y, h1, h2, h3, h4, h5⟩ := givenOf_mem.1 (lookG_mem h)
  exact idss_mem.2 ⟨v, List.mem_of_getElem? h2, hid_ids h3 h4⟩

theorem callV_lk {E : Env} (h : Ag H rt rt2) {id : Nat} (hb : ∀ o, id ≤ o → o < id + room → H o) {f : FuncId} {args : List V} {v : V} (hv : ∀ o ∈ idss args, H o) (e : callV E rt id f args = some (v, rt1)) : ∃ rt3, callV E rt2 id f args = some (v, rt3) ∧ Lk H rt rt1 rt2 rt3 := by
  simp only [callV, Option.bind_eq_some_iff] at e
  obtain ⟨en, hen, e⟩ := e
  split at e
  · rename_i hchk
    simp only [Option.bind_eq_some_iff] at e
    obtain ⟨xs, hxs, ⟨r, os⟩, hF, e⟩ := e
    simp only at e
    split at e
    · rename_i hroom
      simp only [Option.some.injEq, Prod.mk.injEq] at e
      obtain ⟨rfl, rfl⟩ := e
      refine ⟨addRoots (backSt rt2 (givenOf 0 en.own args) en.own os (if (hasImm r || hasImms os) = true then lentOf en.own args else [])) id (inst1s id 0 (comps r)).2, ?_, ?_⟩
      · simp only [callV, hen, Option.bind_some]
        rw [if_pos hchk, argsV_ag h hv, hxs]
        simp only [Option.bind_some, hF]
        rw [if_pos hroom]
      · have hd : ∀ o, o ∈ (if (hasImm r || hasImms os) = true then lentOf en.own args else []) → H o := fun o ho => by
          split at ho
          · exact hv o (lentOf_sub ho)
          · cases ho
        generalize (if (hasImm r || hasImms os) = true then lentOf en.own args else []) = dead at hd
        intro o
        by_cases hin : id ≤ o ∧ o < id + (inst1s id 0 (comps r)).2.length
        · have ho : H o := hb o hin.1 (by omega)
          refine ⟨fun _ => ?_, fun hn => absurd ho hn⟩
          simp only [addRoots]
          rw [if_pos hin, if_pos hin]
        · simp only [addRoots]
          rw [if_neg hin, if_neg hin]
          simp only [backSt]
          cases hg : lookG (givenOf 0 en.own args) o with
          | some x =>
            have ho : H o := hv o (given_sub hg)
            refine ⟨fun _ => by simp only [h o ho], fun hn => absurd ho hn⟩
          | none =>
            by_cases hc : dead.contains o = true
            · simp only [hc, if_true]
              refine ⟨fun _ => trivial, fun hn => absurd (hd o (by simpa using hc)) hn⟩
            · simp only [hc]
              exact ⟨fun ho => by simpa using h o ho, fun _ => ⟨rfl, rfl⟩⟩
    · cases e
  · cases e

theorem appendV_lk {E : Env} (h : Ag H rt rt2) {id : Nat} (hb : H id) {t : TypeId} {d x v : V} (hd : ∀ o ∈ ids d, H o) (hx : ∀ o ∈ ids x, H o) (e : appendV E rt id t d x = some (v, rt1)) : ∃ rt3, appendV E rt2 id t d x = some (v, rt3) ∧ Lk H rt rt1 rt2 rt3 := by
  unfold appendV at e ⊢
  split at e
  · simp only [Option.bind_eq_some_iff] at e
    obtain ⟨ei, hei, ⟨es, ra⟩, hes, e⟩ := e
    obtain ⟨r3, h3, k3⟩ := takeEls_lk h hx hes
    simp only [hei, Option.bind_some, h3]
    split at e
    · rename_i hall
      rw [if_pos hall]
      split at e
      · split at e
        · rename_i hl
          rw [if_pos hl]
          simp only [Option.some.injEq, Prod.mk.injEq] at e
          obtain ⟨rfl, rfl⟩ := e
          exact ⟨_, rfl, k3.upd hb⟩
        · cases e
      · rename_i o nv p s off len
        simp only [Option.bind_eq_some_iff] at e
        obtain ⟨z, hz, e⟩ := e
        have ho : H o := hd o (by simp [ids])
        simp only [look_ag k3.ag ho, hz, Option.bind_some]
        split at e
        · rename_i hc
          rw [if_pos hc]
          simp only [Option.map_eq_some_iff, Prod.mk.injEq] at e
          obtain ⟨⟨u1, u2⟩, hu, rfl, rfl⟩ := e
          obtain ⟨r4, h4, k4⟩ := absorbCell_lk k3.ag hd hu
          exact ⟨_, by rw [h4]; rfl, (k3.trans k4).upd hb⟩
        · cases e
      · cases e
    · cases e
  · cases e

theorem storeV_lk {E : Env} (h : Ag H rt rt2) {t : TypeId} {p x : V} (hp : ∀ o ∈ ids p, H o) (hx : ∀ o ∈ ids x, H o) (e : storeV E rt t p x = some rt1) : ∃ rt3, storeV E rt2 t p x = some rt3 ∧ Lk H rt rt1 rt2 rt3 := by
  unfold storeV at e ⊢
  split at e
  · rename_i o nv path s i k
    simp only [Option.bind_eq_some_iff] at e
    obtain ⟨ti, hti, ⟨y, ra⟩, hy, e⟩ := e
    obtain ⟨r3, h3, k3⟩ := absorb_lk h hx hy
    have ho : H o := hp o (by simp [ids])
    simp only [hti, Option.bind_some, h3]
    split at e
    · rename_i hc
      rw [if_pos hc]
      simp only [Option.bind_eq_some_iff] at e
      obtain ⟨r, hr, z, hz, e⟩ := e
      simp only [valid_ag k3.ag ho, hr, Option.bind_some, hz]
      split at e
      · rename_i hs
        rw [if_pos hs]
        simp only [Option.bind_eq_some_iff] at e
        obtain ⟨w, hw, e⟩ := e
        simp only [hw, Option.bind_some]
        split at e
        · rename_i hk
          rw [if_pos hk]
          simp only [Option.map_eq_some_iff] at e
          obtain ⟨es, hes, rfl⟩ := e
          exact ⟨_, by rw [hes]; rfl, k3.upd ho⟩
        · cases e
      · cases e
    · cases e
  · cases e

/-- The places that an operation's operands name. -/
def opIds (st : St) (op : Op) : List Nat := (op.operands.toList.filterMap (ev st)).flatMap ids

theorem opIds_mem {st : St} {op : Op} {x : Operand} {v : V} {o : Nat} (hx : x ∈ op.operands.toList) (hv : ev st x = some v) (ho : o ∈ ids v) : o ∈ opIds st op :=
  List.mem_flatMap.2 ⟨v, List.mem_filterMap.2 ⟨x, hx, hv⟩, ho⟩

/-- Operations that do not look at the store. -/
def noRt : Op → Bool
  | .move _ | .assign _ | .pick .. | .build .. | .binOp .. | .unOp .. | .convert .. | .makeInterface .. | .makeFunc .. | .field .. | .index .. | .extract .. | .alloc _ | .makeSlice .. => true
  | _ => false
def opR (st : St) (op : Op) : List Nat := if noRt op then [] else opIds st op

theorem evs_ag {st st2 : St} : ∀ {xs : List Operand}, (∀ x ∈ xs, ev st2 x = ev st x) → evs st2 xs = evs st xs
  | [], _ => rfl
  | x :: xs, h => by
    simp only [evs, h x (by simp), evs_ag fun y hy => h y (List.mem_cons_of_mem _ hy)]
theorem evParts_ag {st st2 : St} : ∀ {xs : List (Nat × Operand)}, (∀ x ∈ xs, ev st2 x.2 = ev st x.2) → evParts st2 xs = evParts st xs
  | [], _ => rfl
  | (i, x) :: xs, h => by
    simp only [evParts, h (i, x) (by simp), evParts_ag fun y hy => h y (List.mem_cons_of_mem _ hy)]
theorem evs_mem {st : St} : ∀ {xs : List Operand} {vs : List V} {v : V}, evs st xs = some vs → v ∈ vs → ∃ x ∈ xs, ev st x = some v
  | [], vs, v, h, hv => by simp [evs] at h; subst h; cases hv
  | x :: xs, vs, v, h, hv => by
    simp only [evs, Option.bind_eq_some_iff, Option.map_eq_some_iff] at h
    obtain ⟨u, hu, us, hus, rfl⟩ := h
    rcases List.mem_cons.1 hv with rfl | hv
    · exact ⟨x, by simp, hu⟩
    · obtain ⟨y, hy, h⟩ := evs_mem hus hv
      exact ⟨y, List.mem_cons_of_mem _ hy, h⟩
theorem evParts_mem {st : St} : ∀ {xs : List (Nat × Operand)} {vs : List (Nat × V)} {v : Nat × V}, evParts st xs = some vs → v ∈ vs → ∃ x ∈ xs, ev st x.2 = some v.2
  | [], vs, v, h, hv => by simp [evParts] at h; subst h; cases hv
  | (i, x) :: xs, vs, v, h, hv => by
    simp only [evParts, Option.bind_eq_some_iff, Option.map_eq_some_iff] at h
    obtain ⟨u, hu, us, hus, rfl⟩ := h
    rcases List.mem_cons.1 hv with rfl | hv
    · exact ⟨(i, x), by simp, hu⟩
    · obtain ⟨y, hy, h⟩ := evParts_mem hus hv
      exact ⟨y, List.mem_cons_of_mem _ hy, h⟩
theorem evOpt_ag {st st2 : St} {x : Option Operand} (h : ∀ y, x = some y → ev st2 y = ev st y) : evOpt st2 x = evOpt st x := by
  cases x with
  | none => rfl
  | some y => simp only [evOpt, h y rfl]
theorem putEls_mem {sz : Nat} {a : Bool} : ∀ {ps : List (Nat × V)} {es es' : List V} {v : V}, putEls sz a es ps = some es' → v ∈ es' → v ∈ es ∨ ∃ p ∈ ps, p.2 = v
  | [], es, es', v, h, hv => by simp [putEls] at h; subst h; exact .inl hv
  | (i, x) :: ps, es, es', v, h, hv => by
    simp only [putEls] at h
    split at h
    · rcases putEls_mem h hv with h1 | ⟨p, hp, rfl⟩
      · rcases List.mem_or_eq_of_mem_set h1 with h2 | h2
        · exact .inl h2
        · exact .inr ⟨(i, x), by simp, h2.symm⟩
      · exact .inr ⟨p, List.mem_cons_of_mem _ hp, rfl⟩
    · cases h
end Go.Ln
/- An operation looks at, and turns, the rows alone that its operands lead to: whichever it is. -/
set_option linter.unusedVariables false
set_option linter.unusedSimpArgs false
set_option linter.unusedSectionVars false
namespace Go.Ln
open Go
variable {H : Nat → Prop} {rt rt1 rt2 rt3 : Store}

theorem ids_const {c : Value} {v : V} (h : zeroV c = some v) : ids v = [] := by
  have one : ∀ {c : Value} {v : V}, ofConst c = some v → ids v = [] := by
    intro c v h
    unfold ofConst at h
    split at h <;> cases h <;> rfl
  unfold zeroV at h
  split at h
  · simp only [Option.map_eq_some_iff] at h
    obtain ⟨vs, hvs, rfl⟩ := h
    simp only [ids]
    rename_i cs
    generalize cs.toList = l at hvs
    induction l generalizing vs with
    | nil => simp [ofConsts] at hvs; subst hvs; rfl
    | cons x l ih =>
      simp only [ofConsts, Option.bind_eq_some_iff, Option.map_eq_some_iff] at hvs
      obtain ⟨y, hy, ys, hys, rfl⟩ := hvs
      simp [idss, one hy, ih ys hys]
  · exact one h

theorem opV_lk {E : Env} {id : Nat} {st st2 : St} {op : Op} {v : V} (hb : ∀ o, id ≤ o → o < id + room → H o) (ho : ∀ o ∈ opR st op, H o) (hx : ∀ x ∈ op.operands.toList, ev st2 x = ev st x) (h : Ag H st.rt st2.rt)
    (e : opV E id st op = some (v, rt1)) : ∃ rt3, opV E id st2 op = some (v, rt3) ∧ Lk H st.rt rt1 st2.rt rt3 := by
  have hid : H id := hb id (Nat.le_refl _) (by unfold room; omega)
  have pure : st.rt = rt1 → opV E id st2 op = some (v, st2.rt) → ∃ rt3, opV E id st2 op = some (v, rt3) ∧ Lk H st.rt rt1 st2.rt rt3 := by
    rintro rfl h2
    exact ⟨_, h2, Lk.refl h⟩
  have hv : noRt op = false → ∀ {x : Operand} {u : V}, x ∈ op.operands.toList → ev st x = some u → ∀ o ∈ ids u, H o := fun hn _ _ hm hu o hi => ho o (by unfold opR; rw [hn]; exact opIds_mem hm hu hi)
  cases op with
  | move x =>
    simp only [opV, Option.map_eq_some_iff, Prod.mk.injEq] at e
    obtain ⟨u, hu, rfl, rfl⟩ := e
    exact pure rfl (by simp [opV, hx x (by simp [Op.operands]), hu])
  | assign x =>
    simp only [opV, Option.map_eq_some_iff, Prod.mk.injEq] at e
    obtain ⟨u, hu, rfl, rfl⟩ := e
    exact pure rfl (by simp [opV, hx x (by simp [Op.operands]), hu])
  | pick c a b =>
    simp only [opV, Option.map_eq_some_iff, Option.bind_eq_some_iff, Prod.mk.injEq] at e
    obtain ⟨u, hu, y, hy, rfl, rfl⟩ := e
    refine pure rfl ?_
    simp only [opV, hx c (by simp [Op.operands]), hx a (by simp [Op.operands]), hx b (by simp [Op.operands]), hu, Option.bind_some]
    rw [hy]; rfl
  | alloc t =>
    simp only [opV, Option.map_eq_some_iff, Option.bind_eq_some_iff, Prod.mk.injEq] at e
    obtain ⟨ti, hti, z, hz, rfl, rfl⟩ := e
    exact ⟨_, by simp [opV, hti, hz], (Lk.refl h).upd hid⟩
  | box t x =>
    simp only [opV, Option.map_eq_some_iff, Option.bind_eq_some_iff, Prod.mk.injEq] at e
    obtain ⟨u, hu, ⟨y, ra⟩, hy, rfl, rfl⟩ := e
    obtain ⟨r3, h3, k3⟩ := absorb_lk h (hv rfl (by simp [Op.operands]) hu) hy
    exact ⟨_, by simp [opV, hx x (by simp [Op.operands]), hu, h3], k3.upd hid⟩
  | build t ps =>
    simp only [opV, Option.map_eq_some_iff, Option.bind_eq_some_iff, Prod.mk.injEq] at e
    obtain ⟨u, hu, y, hy, rfl, rfl⟩ := e
    exact pure rfl (by simp [opV, evParts_ag (xs := ps.toList) fun x hm => hx x.2 (by simp [Op.operands]; exact ⟨x.1, by simpa using hm⟩), hu, hy])
  | buildSlice t n ps =>
    simp only [opV, Option.bind_eq_some_iff] at e
    obtain ⟨pv, hpv, e⟩ := e
    have hpv2 : evParts st2 ps.toList = some pv := by rw [evParts_ag (xs := ps.toList) fun x hm => hx x.2 (by simp [Op.operands]; exact ⟨x.1, by simpa using hm⟩), hpv]
    split at e
    · rename_i el sz bt zv htt
      simp only [Option.bind_eq_some_iff] at e
      obtain ⟨ei, hei, z, hz, e⟩ := e
      split at e
      · rename_i hc
        simp only [Option.bind_eq_some_iff, Option.map_eq_some_iff, Prod.mk.injEq] at e
        obtain ⟨es, hes, ⟨ys, ra⟩, hys, rfl, rfl⟩ := e
        obtain ⟨r3, h3, k3⟩ := absorbEach_lk h (fun o hm => by
          obtain ⟨x, hxm, hi⟩ := idss_mem.1 hm
          rcases putEls_mem hes hxm with h1 | ⟨p, hp, rfl⟩
          · rw [List.eq_of_mem_replicate h1, ids_const hz] at hi
            cases hi
          · obtain ⟨q, hq, hqe⟩ := evParts_mem hpv hp
            exact hv rfl (x := q.2) (by simp [Op.operands]; exact ⟨q.1, by simpa using hq⟩) hqe o hi) hys
        refine ⟨_, ?_, k3.upd hid⟩
        simp only [opV, hpv2, Option.bind_some, htt, hei, hz]
        rw [if_pos hc, hes]
        simp only [Option.bind_some, h3]
        rfl
      · cases e
    · cases e
  | load t p =>
    simp only [opV, Option.bind_eq_some_iff] at e
    obtain ⟨ti, hti, pv, hp, cs, hc, e⟩ := e
    split at e
    · rename_i hcc
      simp only [Option.map_eq_some_iff, Prod.mk.injEq] at e
      obtain ⟨y, hy, rfl, rfl⟩ := e
      refine pure rfl ?_
      simp only [opV, hti, Option.bind_some, hx p (by simp [Op.operands]), hp, from_ag h (hv rfl (by simp [Op.operands]) hp), hc]
      rw [if_pos hcc, hy]; rfl
    · cases e
  | store t p x =>
    simp only [opV, Option.bind_eq_some_iff, Option.map_eq_some_iff, Prod.mk.injEq] at e
    obtain ⟨pv, hp, xv, hxv, ra, hs, rfl, rfl⟩ := e
    obtain ⟨r3, h3, k3⟩ := storeV_lk h (hv rfl (by simp [Op.operands]) hp) (hv rfl (by simp [Op.operands]) hxv) hs
    exact ⟨r3, by simp [opV, hx p (by simp [Op.operands]), hx x (by simp [Op.operands]), hp, hxv, h3], k3⟩
  | nilCheck x =>
    simp only [opV, Option.bind_eq_some_iff] at e
    obtain ⟨u, hu, e⟩ := e
    have hi := hv rfl (x := x) (by simp [Op.operands]) hu
    split at e
    · rename_i o nv p s i k
      split at e
      · rename_i hc
        cases e
        refine pure rfl ?_
        simp only [opV, hx x (by simp [Op.operands]), hu, Option.bind_some, look_ag h (hi o (by simp [ids]))]
        rw [if_pos hc]
      · cases e
    · cases e
      exact pure rfl (by simp [opV, hx x (by simp [Op.operands]), hu])
    · cases e
  | binOp op t x y t' =>
    simp only [opV, Option.bind_eq_some_iff, Option.map_eq_some_iff, Prod.mk.injEq] at e
    obtain ⟨a, ha, b, hb', u, hu, rfl, rfl⟩ := e
    exact pure rfl (by simp [opV, hx x (by simp [Op.operands]), hx y (by simp [Op.operands]), ha, hb', hu])
  | unOp op t x =>
    simp only [opV, Option.bind_eq_some_iff, Option.map_eq_some_iff, Prod.mk.injEq] at e
    obtain ⟨a, ha, u, hu, rfl, rfl⟩ := e
    exact pure rfl (by simp [opV, hx x (by simp [Op.operands]), ha, hu])
  | convert s d x =>
    simp only [opV, Option.bind_eq_some_iff, Option.map_eq_some_iff, Prod.mk.injEq] at e
    obtain ⟨a, ha, u, hu, rfl, rfl⟩ := e
    refine pure rfl ?_
    have : convV E st2.rt s d a = convV E st.rt s d a := rfl
    simp [opV, hx x (by simp [Op.operands]), ha, this, hu]
  | makeInterface t x =>
    simp only [opV, Option.bind_eq_some_iff] at e
    obtain ⟨a, ha, e⟩ := e
    split at e
    · rename_i hc
      cases hd : E.desc t with
      | none => simp [hd] at e
      | some d =>
        cases d <;> simp only [hd] at e <;> first
          | (cases e; done)
          | (simp only [Option.some.injEq, Prod.mk.injEq] at e
             obtain ⟨rfl, rfl⟩ := e
             refine pure rfl ?_
             simp only [opV, hx x (by simp [Op.operands]), ha, Option.bind_some, hd]
             rw [if_pos hc])
    · cases e
  | makeFunc fn first caps =>
    cases fn with
    | func f =>
      simp only [opV] at e
      split at e
      · rename_i h0
        simp only [Option.bind_eq_some_iff] at e
        obtain ⟨cs, hcs, e⟩ := e
        split at e
        · rename_i hc
          cases e
          refine pure rfl ?_
          simp only [opV]
          rw [if_pos h0, evs_ag fun x hm => hx x (by simp [Op.operands]; exact .inr (by simpa using hm)), hcs]
          simp only [Option.bind_some]
          rw [if_pos hc]
        · cases e
      · cases e
    | _ => simp [opV] at e
  | makeSlice t l c =>
    simp only [opV, Option.bind_eq_some_iff] at e
    obtain ⟨lv, hl, cv, hc, e⟩ := e
    split at e
    · rename_i el sz bt zv l' c' htt
      simp only [Option.bind_eq_some_iff] at e
      obtain ⟨ei, hei, z, hz, e⟩ := e
      split at e
      · rename_i hcc
        cases e
        refine ⟨_, ?_, (Lk.refl h).upd hid⟩
        simp only [opV, hx l (by simp [Op.operands]), hx c (by simp [Op.operands]), hl, hc, Option.bind_some, htt, hei, hz]
        rw [if_pos hcc]
      · cases e
    · cases e
  | slice t x lo hi m =>
    cases m with
    | some m => simp [opV] at e
    | none =>
      simp only [opV, Option.bind_eq_some_iff] at e
      obtain ⟨xv, hxv, l, hl, r, hr, e⟩ := e
      split at e
      · rename_i hal
        simp only [Option.map_eq_some_iff, Prod.mk.injEq] at e
        obtain ⟨u, hu, rfl, rfl⟩ := e
        refine pure rfl ?_
        have h1 : sliceV E st2.rt t xv l r = sliceV E st.rt t xv l r := rfl
        simp only [opV, hx x (by simp [Op.operands]), hxv, Option.bind_some, evOpt_ag (x := lo) (fun y hy => hx y (by subst hy; simp [Op.operands])), evOpt_ag (x := hi) (fun y hy => hx y (by subst hy; simp [Op.operands])), hl, hr, alive_ag h (hv rfl (x := x) (by simp [Op.operands]) hxv)]
        rw [if_pos hal, h1, hu]; rfl
      · cases e
  | fieldAddr s x f =>
    simp only [opV, Option.bind_eq_some_iff] at e
    obtain ⟨xv, hxv, fl, hf, e⟩ := e
    have hi := hv rfl (x := x) (by simp [Op.operands]) hxv
    split at e
    · split at e
      · rename_i hc
        cases e
        refine pure rfl ?_
        simp only [opV, hx x (by simp [Op.operands]), hxv, hf, Option.bind_some]
        rw [if_pos hc]
      · cases e
    · rename_i o nv p sz i k
      split at e
      · rename_i hc
        cases e
        refine pure rfl ?_
        simp only [opV, hx x (by simp [Op.operands]), hxv, hf, Option.bind_some, look_ag h (hi o (by simp [ids]))]
        rw [if_pos hc]
      · cases e
    · cases e
  | field s x f =>
    simp only [opV, Option.bind_eq_some_iff] at e
    obtain ⟨xv, hxv, fl, hf, e⟩ := e
    split at e
    · split at e
      · rename_i hc
        simp only [Option.map_eq_some_iff, Prod.mk.injEq] at e
        obtain ⟨u, hu, rfl, rfl⟩ := e
        refine pure rfl ?_
        simp only [opV, hx x (by simp [Op.operands]), hxv, hf, Option.bind_some]
        rw [if_pos hc, hu]; rfl
      · cases e
    · cases e
  | indexAddr t x i =>
    simp only [opV, Option.bind_eq_some_iff] at e
    obtain ⟨xv, hxv, iv, hiv, e⟩ := e
    split at e
    · split at e
      · rename_i hal
        simp only [Option.map_eq_some_iff, Prod.mk.injEq] at e
        obtain ⟨u, hu, rfl, rfl⟩ := e
        refine pure rfl ?_
        simp only [opV, hx x (by simp [Op.operands]), hx i (by simp [Op.operands]), hxv, hiv, Option.bind_some, alive_ag h (hv rfl (x := x) (by simp [Op.operands]) hxv)]
        rw [if_pos hal, hu]; rfl
      · cases e
    · cases e
  | index t x i =>
    simp only [opV, Option.bind_eq_some_iff] at e
    obtain ⟨xv, hxv, iv, hiv, e⟩ := e
    split at e
    · simp only [Option.map_eq_some_iff, Prod.mk.injEq] at e
      obtain ⟨u, hu, rfl, rfl⟩ := e
      exact pure rfl (by simp [opV, hx x (by simp [Op.operands]), hx i (by simp [Op.operands]), hxv, hiv, hu])
    · cases e
  | extract x i =>
    simp only [opV, Option.bind_eq_some_iff] at e
    obtain ⟨xv, hxv, e⟩ := e
    split at e
    · simp only [Option.map_eq_some_iff, Prod.mk.injEq] at e
      obtain ⟨u, hu, rfl, rfl⟩ := e
      exact pure rfl (by simp [opV, hx x (by simp [Op.operands]), hxv, hu])
    · cases e
  | call c =>
    simp only [opV, callOp, Option.bind_eq_some_iff] at e
    obtain ⟨args, hargs, e⟩ := e
    have hargs2 : evs st2 c.args.toList = some args := by rw [evs_ag fun x hm => hx x (by simp [Op.operands, Call.operands]; exact .inr (by simpa using hm)), hargs]
    have hai : ∀ o ∈ idss args, H o := fun o hm => by
      obtain ⟨u, hu, hi⟩ := idss_mem.1 hm
      obtain ⟨x, hxm, hxe⟩ := evs_mem hargs hu
      exact hv rfl (by simp [Op.operands, Call.operands]; exact .inr (by simpa using hxm)) hxe o hi
    split at e
    · rename_i f hcal
      simp only [Option.bind_eq_some_iff] at e
      obtain ⟨fv, hf, e⟩ := e
      have hfm : f ∈ (Op.call c).operands.toList := by simp [Op.operands, Call.operands, hcal]
      have hfi := hv rfl hfm hf
      split at e
      · rename_i fid caps
        obtain ⟨r3, h3, k3⟩ := callV_lk h hb (args := args ++ caps) (fun o hm => by
          obtain ⟨u, hu, hi⟩ := idss_mem.1 hm
          rcases List.mem_append.1 hu with h1 | h1
          · exact hai o (idss_mem.2 ⟨u, h1, hi⟩)
          · exact hfi o (by simp only [ids]; exact idss_mem.2 ⟨u, h1, hi⟩)) e
        refine ⟨r3, ?_, k3⟩
        simp only [opV, callOp, hargs2, Option.bind_some, hcal, hx f hfm, hf]
        exact h3
      · cases e
    · rename_i b hcal
      simp only [opV, callOp, hargs2, Option.bind_some, hcal]
      unfold builtinV at e ⊢
      split at e
      · split at e
        · rename_i x hal
          simp only [Option.bind_eq_some_iff, Option.map_eq_some_iff, Prod.mk.injEq] at e
          obtain ⟨t, ht, u, hu, rfl, rfl⟩ := e
          refine ⟨st2.rt, ?_, Lk.refl h⟩
          rw [alive_ag h fun o hm => hai o (by simpa [idss] using hm), if_pos hal, ht]
          simp [hu]
        · cases e
      · simp only [Option.bind_eq_some_iff] at e
        obtain ⟨t, ht, t1, ht1, e⟩ := e
        split at e
        · rename_i hs
          obtain ⟨r3, h3, k3⟩ := appendV_lk h hid (fun o hm => hai o (by simp [idss, hm])) (fun o hm => hai o (by simp [idss, hm])) e
          refine ⟨r3, ?_, k3⟩
          simp only [ht, ht1, Option.bind_some]
          rw [if_pos hs, h3]
        · cases e
      · simp only [Option.map_eq_some_iff, Prod.mk.injEq] at e
        obtain ⟨u, hu, rfl, rfl⟩ := e
        exact ⟨st2.rt, by simp [hu], Lk.refl h⟩
      · simp only [Option.map_eq_some_iff, Prod.mk.injEq] at e
        obtain ⟨u, hu, rfl, rfl⟩ := e
        exact ⟨st2.rt, by simp [hu], Lk.refl h⟩
      · cases e
    · cases e
  | _ => simp [opV] at e
end Go.Ln
/- Regions whose order is drawn: what is checked of them, and which places an operation turns. -/
set_option linter.unusedVariables false
set_option linter.unusedSimpArgs false
set_option linter.unusedSectionVars false
namespace Go.Ln
open Go

/-! ### which places an operation turns -/
def callW (E : Env) (rt : Store) (f : FuncId) (args : List V) : List Nat :=
  match E.fn f with
  | some e => (givenOf 0 e.own args).map (·.1) ++ (match (argsV rt e.own args).bind e.F with
    | some r => if hasImm r.1 || hasImms r.2 then lentOf e.own args else []
    | none => [])
  | none => []
def appendW (rt : Store) (d x : V) : List Nat :=
  ids d ++ (match x with
  | .hs o nv p _ off len => (match look rt o nv p with
    | some y => if ((y.2.drop off).take len).all flatE then [] else [o]
    | none => [o])
  | _ => [])
def opW (E : Env) (st : St) (op : Op) : List Nat :=
  match op with
  | .box _ _ | .buildSlice .. | .store .. => opIds st op
  | .call c => (match c.callee with
    | .value f => (match ev st f, evs st c.args.toList with
      | some (.fn g caps), some args => callW E st.rt g (args ++ caps)
      | _, _ => [])
    | .builtin .append => (match evs st c.args.toList with
      | some [d, x] => appendW st.rt d x
      | _ => [])
    | _ => [])
  | _ => []

theorem lookG_key {g : List (Nat × Nat × Nat)} {o : Nat} {x : Nat × Nat} (h : lookG g o = some x) : o ∈ g.map (·.1) := List.mem_map.2 ⟨(o, x), lookG_mem h, rfl⟩

theorem callV_w {E : Env} {rt rt1 : Store} {id : Nat} {f : FuncId} {args : List V} {v : V} (e : callV E rt id f args = some (v, rt1)) {o : Nat} (h : o ∉ callW E rt f args) (hb : ¬ (id ≤ o ∧ o < id + room)) : rt1 o = rt o := by
  simp only [callV, Option.bind_eq_some_iff] at e
  obtain ⟨en, hen, e⟩ := e
  split at e
  · simp only [Option.bind_eq_some_iff] at e
    obtain ⟨xs, hxs, ⟨r, os⟩, hF, e⟩ := e
    simp only at e
    split at e
    · rename_i hroom
      simp only [Option.some.injEq, Prod.mk.injEq] at e
      obtain ⟨_, rfl⟩ := e
      simp only [callW, hen, hxs, Option.bind_some, hF, List.mem_append, not_or] at h
      simp only [addRoots]
      rw [if_neg (by omega)]
      simp only [backSt]
      cases hg : lookG (givenOf 0 en.own args) o with
      | some x => exact absurd (lookG_key hg) h.1
      | none =>
        have : ¬ (if (hasImm r || hasImms os) = true then lentOf en.own args else []).contains o = true := by
          simpa using h.2
        simp only
        rw [if_neg this]
    · cases e
  · cases e

theorem takeEls_w {rt rt1 : Store} {x : V} {es : List V} (e : takeEls rt x = some (es, rt1)) {o : Nat} (h : o ∉ (match x with
  | .hs o nv p _ off len => (match look rt o nv p with
    | some y => if ((y.2.drop off).take len).all flatE then [] else [o]
    | none => [o])
  | _ => [])) : rt1 o = rt o := by
  cases x with
  | isl n es => simp only [takeEls, Option.some.injEq, Prod.mk.injEq] at e; rw [e.2]
  | hs o' nv p s off len =>
    simp only [takeEls, Option.bind_eq_some_iff] at e
    obtain ⟨y, hy, e⟩ := e
    simp only [hy] at h
    split at e
    · split at e
      · cases e
      · split at e
        · cases e; rfl
        · rename_i hf
          rw [if_neg hf] at h
          split at e
          · cases e
            have : o ≠ o' := by simpa using h
            simp [upd, this]
          · cases e
    · cases e
  | _ => simp [takeEls] at e

theorem takeOut_w {rt rt1 : Store} {o o' : Nat} {r : Root} {p} (e : takeOut rt o' r p = some rt1) (h : o ≠ o') : rt1 o = rt o := by
  unfold takeOut at e
  split at e
  · cases e; simp [upd, h]
  · simp only [Option.bind_eq_some_iff, Option.map_eq_some_iff] at e
    obtain ⟨y, hy, z, hz, es, hes, rfl⟩ := e
    simp [upd, h]
theorem absorbCell_w {rt rt1 : Store} {d u : V} (e : absorbCell rt d = some (u, rt1)) {o : Nat} (h : o ∉ ids d) : rt1 o = rt o := by
  obtain ⟨rt3, h3, k⟩ := absorbCell_lk (H := fun x => x ∈ ids d) (rt2 := rt) (fun _ _ => rfl) (fun _ h => h) e
  exact ((k o).2 h).2

theorem opV_w {E : Env} {id : Nat} {st : St} {op : Op} {v : V} {rt1 : Store} (e : opV E id st op = some (v, rt1)) {o : Nat} (h : o ∉ opW E st op) (hb : ¬ (id ≤ o ∧ o < id + room)) : rt1 o = st.rt o := by
  have all : o ∉ opR st op → rt1 o = st.rt o := fun hn => by
    obtain ⟨rt3, h3, k⟩ := opV_lk (H := fun x => x ∈ opR st op ∨ (id ≤ x ∧ x < id + room)) (st2 := st) (fun o h1 h2 => .inr ⟨h1, h2⟩) (fun o h => .inl h) (fun _ _ => rfl) (fun _ _ => rfl) e
    exact ((k o).2 (by rintro (h | h); exact hn h; exact hb h)).2
  cases op with
  | box t x => exact all (by simpa [opR, noRt, opW] using h)
  | buildSlice t n ps => exact all (by simpa [opR, noRt, opW] using h)
  | store t p x => exact all (by simpa [opR, noRt, opW] using h)
  | call c =>
    simp only [opV, callOp, Option.bind_eq_some_iff] at e
    obtain ⟨args, hargs, e⟩ := e
    split at e
    · rename_i f hcal
      simp only [Option.bind_eq_some_iff] at e
      obtain ⟨fv, hf, e⟩ := e
      split at e
      · rename_i fid caps
        simp only [opW, hcal, hf, hargs] at h
        exact callV_w e h hb
      · cases e
    · rename_i b hcal
      unfold builtinV at e
      split at e
      · split at e
        · simp only [Option.bind_eq_some_iff, Option.map_eq_some_iff, Prod.mk.injEq] at e
          obtain ⟨t, ht, u, hu, _, rfl⟩ := e
          rfl
        · cases e
      · simp only [Option.bind_eq_some_iff] at e
        obtain ⟨t, ht, t1, ht1, e⟩ := e
        split at e
        · rename_i d x _
          simp only [opW, hcal, hargs, appendW, List.mem_append, not_or] at h
          unfold appendV at e
          split at e
          · simp only [Option.bind_eq_some_iff] at e
            obtain ⟨ei, hei, ⟨es, ra⟩, hes, e⟩ := e
            have h1 := takeEls_w hes h.2
            have hid : o ≠ id := by rintro rfl; exact hb ⟨Nat.le_refl _, by unfold room; omega⟩
            split at e
            · split at e
              · split at e
                · simp only [Option.some.injEq, Prod.mk.injEq] at e
                  obtain ⟨_, rfl⟩ := e
                  simpa [upd, hid] using h1
                · cases e
              · simp only [Option.bind_eq_some_iff] at e
                obtain ⟨z, hz, e⟩ := e
                split at e
                · simp only [Option.map_eq_some_iff, Prod.mk.injEq] at e
                  obtain ⟨⟨u1, u2⟩, hu, _, rfl⟩ := e
                  have h2 := absorbCell_w hu h.1
                  simp only [upd, if_neg hid]
                  rw [h2, h1]
                · cases e
              · cases e
            · cases e
          · cases e
        · cases e
      · simp only [Option.map_eq_some_iff, Prod.mk.injEq] at e
        obtain ⟨u, hu, _, rfl⟩ := e
        rfl
      · simp only [Option.map_eq_some_iff, Prod.mk.injEq] at e
        obtain ⟨u, hu, _, rfl⟩ := e
        rfl
      · cases e
    · cases e
  | alloc t =>
    simp only [opV, Option.map_eq_some_iff, Option.bind_eq_some_iff, Prod.mk.injEq] at e
    obtain ⟨ti, hti, z, hz, _, rfl⟩ := e
    have hid : o ≠ id := by rintro rfl; exact hb ⟨Nat.le_refl _, by unfold room; omega⟩
    simp [upd, hid]
  | makeSlice t l c => exact all (by simp [opR, noRt])
  | nilCheck x =>
    simp only [opV, Option.bind_eq_some_iff] at e
    obtain ⟨u, hu, e⟩ := e
    split at e
    · split at e <;> cases e; rfl
    · cases e; rfl
    · cases e
  | load t p =>
    simp only [opV, Option.bind_eq_some_iff] at e
    obtain ⟨ti, hti, pv, hp, cs, hc, e⟩ := e
    split at e
    · simp only [Option.map_eq_some_iff, Prod.mk.injEq] at e
      obtain ⟨y, hy, _, rfl⟩ := e
      rfl
    · cases e
  | slice t x lo hi m =>
    cases m with
    | some m => simp [opV] at e
    | none =>
      simp only [opV, Option.bind_eq_some_iff] at e
      obtain ⟨xv, hxv, l, hl, r, hr, e⟩ := e
      split at e
      · simp only [Option.map_eq_some_iff, Prod.mk.injEq] at e
        obtain ⟨u, hu, _, rfl⟩ := e
        rfl
      · cases e
  | fieldAddr s x f =>
    simp only [opV, Option.bind_eq_some_iff] at e
    obtain ⟨xv, hxv, fl, hf, e⟩ := e
    split at e
    · split at e <;> cases e; rfl
    · split at e <;> cases e; rfl
    · cases e
  | indexAddr t x i =>
    simp only [opV, Option.bind_eq_some_iff] at e
    obtain ⟨xv, hxv, iv, hiv, e⟩ := e
    split at e
    · split at e
      · simp only [Option.map_eq_some_iff, Prod.mk.injEq] at e
        obtain ⟨u, hu, _, rfl⟩ := e
        rfl
      · cases e
    · cases e
  | makeInterface t x => exact all (by simp [opR, noRt])
  | makeFunc a b c => exact all (by simp [opR, noRt])
  | move x => exact all (by simp [opR, noRt])
  | assign x => exact all (by simp [opR, noRt])
  | pick a b c => exact all (by simp [opR, noRt])
  | build a b => exact all (by simp [opR, noRt])
  | binOp a b c d e => exact all (by simp [opR, noRt])
  | unOp a b c => exact all (by simp [opR, noRt])
  | convert a b c => exact all (by simp [opR, noRt])
  | field a b c => exact all (by simp [opR, noRt])
  | index a b c => exact all (by simp [opR, noRt])
  | extract a b => exact all (by simp [opR, noRt])
  | _ => simp [opV] at e
end Go.Ln
/- Regions whose order is drawn: each order that the dependencies allow leads to the same state. -/
set_option linter.unusedVariables false
set_option linter.unusedSimpArgs false
set_option linter.unusedSectionVars false
namespace Go.Ln
open Go

theorem appendW_sub {rt : Store} {d x : V} {o : Nat} (h : o ∈ appendW rt d x) : o ∈ ids d ∨ o ∈ ids x := by
  simp only [appendW, List.mem_append] at h
  refine h.imp id fun h => ?_
  split at h
  · split at h
    · split at h
      · cases h
      · simpa [ids] using h
    · simpa [ids] using h
  · cases h
theorem callW_sub {E : Env} {rt : Store} {f : FuncId} {args : List V} {o : Nat} (h : o ∈ callW E rt f args) : o ∈ idss args := by
  unfold callW at h
  split at h
  · simp only [List.mem_append] at h
    rcases h with h | h
    · obtain ⟨⟨o', a, k⟩, hg, rfl⟩ := List.mem_map.1 h
      obtain ⟨a, v, k, y, h1, h2, h3, h4, h5⟩ := givenOf_mem.1 hg
      exact idss_mem.2 ⟨v, List.mem_of_getElem? h2, hid_ids h3 h4⟩
    · split at h
      · split at h
        · exact lentOf_sub h
        · cases h
      · cases h
  · cases h
theorem opW_sub {E : Env} {st : St} {op : Op} {o : Nat} (h : o ∈ opW E st op) : o ∈ opR st op := by
  cases op with
  | box t x => simpa [opR, noRt, opW] using h
  | buildSlice t n ps => simpa [opR, noRt, opW] using h
  | store t p x => simpa [opR, noRt, opW] using h
  | call c =>
    have e : opR st (.call c) = opIds st (.call c) := rfl
    rw [e]
    simp only [opW] at h
    split at h
    · rename_i f hcal
      split at h
      · rename_i g caps args hf hargs
        obtain ⟨v, hv, ho⟩ := idss_mem.1 (callW_sub h)
        rcases List.mem_append.1 hv with h1 | h1
        · obtain ⟨x, hx, hxe⟩ := evs_mem hargs h1
          exact opIds_mem (by simp [Op.operands, Call.operands]; exact .inr (by simpa using hx)) hxe ho
        · exact opIds_mem (x := f) (by simp [Op.operands, Call.operands, hcal]) hf (by simp only [ids]; exact idss_mem.2 ⟨v, h1, ho⟩)
      · cases h
    · split at h
      · rename_i d x hargs
        rcases appendW_sub h with h1 | h1
        · obtain ⟨y, hy, hye⟩ := evs_mem hargs (v := d) (by simp)
          exact opIds_mem (by simp [Op.operands, Call.operands]; exact .inr (by simpa using hy)) hye h1
        · obtain ⟨y, hy, hye⟩ := evs_mem hargs (v := x) (by simp)
          exact opIds_mem (by simp [Op.operands, Call.operands]; exact .inr (by simpa using hy)) hye h1
      · cases h
    · cases h
  | _ => simp [opW] at h

/-! ### what is checked ahead -/
def modeFree (e : Edge) : Bool :=
  match e.ground with
  | .textOnly _ => false
  | .gcOnly _ => false
  | _ => true
def pre (o : Oper) : List Nat := (o.after.toList.filter modeFree).map (·.on)
def maskF (ms : List Nat) : List Nat → Nat → Nat
  | [], m => m
  | j :: l, m => maskF ms l (m ||| (2 ^ j) ||| ms.getD j 0)
def maskOf (ms : List Nat) (o : Oper) : Nat := maskF ms (pre o) 0
def opTmps (op : Op) : List Nat := op.operands.toList.filterMap fun
  | .tmp t => some t
  | _ => none
def guardTmp (ops : Array Oper) (o : Oper) : List Nat :=
  match o.guard with
  | some (j, _) => ((ops[j]?).bind (·.dst)).toList
  | none => []
def looks (ops : Array Oper) (o : Oper) : List Nat := opTmps o.op ++ guardTmp ops o
def apartT (l : List Nat) : Option Nat → Bool
  | some d => !l.contains d
  | none => true
def apartD : Option Nat → Option Nat → Bool
  | some a, some b => a != b
  | _, _ => true
def static (ops : Array Oper) (ms : List Nat) : Bool :=
  (List.range ops.size).all fun i => match ops[i]? with
    | none => false
    | some oi => (pre oi).all (fun j => decide (j < i)) && (ms.getD i 0 == maskOf ms oi) && (List.range i).all fun j => match ops[j]? with
      | none => false
      | some oj => (ms.getD i 0).testBit j || (apartT (looks ops oi) oj.dst && apartT (looks ops oj) oi.dst && apartD oi.dst oj.dst)

theorem maskF_bit {ms : List Nat} {j : Nat} : ∀ {l : List Nat} {m : Nat}, (maskF ms l m).testBit j = true → m.testBit j = true ∨ ∃ k ∈ l, j = k ∨ (ms.getD k 0).testBit j = true
  | [], m, h => .inl h
  | k :: l, m, h => by
    rcases maskF_bit (l := l) h with h1 | ⟨k', hk, h1⟩
    · simp only [Nat.testBit_or, Bool.or_eq_true, Nat.testBit_two_pow, decide_eq_true_eq] at h1
      rcases h1 with (h1 | h1) | h1
      · exact .inl h1
      · exact .inr ⟨k, by simp, .inl h1.symm⟩
      · exact .inr ⟨k, by simp, .inr h1⟩
    · exact .inr ⟨k', List.mem_cons_of_mem _ hk, h1⟩

structure StOk (ops : Array Oper) (ms : List Nat) (i : Nat) (oi : Oper) : Prop where
  pre : ∀ j ∈ pre oi, j < i
  mask : ms.getD i 0 = maskOf ms oi
  pair : ∀ j, j < i → ∀ oj, ops[j]? = some oj → (ms.getD i 0).testBit j = true ∨ (apartT (looks ops oi) oj.dst = true ∧ apartT (looks ops oj) oi.dst = true ∧ apartD oi.dst oj.dst = true)

theorem static_spec {ops : Array Oper} {ms : List Nat} (h : static ops ms = true) {i : Nat} {oi : Oper} (hi : ops[i]? = some oi) : StOk ops ms i oi := by
  unfold static at h
  rw [List.all_eq_true] at h
  have := h i (List.mem_range.2 (Array.getElem?_eq_some_iff.1 hi).1)
  simp only [hi, Bool.and_eq_true, List.all_eq_true, decide_eq_true_eq, beq_iff_eq] at this
  obtain ⟨⟨h1, h2⟩, h3⟩ := this
  refine ⟨h1, h2, fun j hj oj hoj => ?_⟩
  have := h3 j (List.mem_range.2 hj)
  simp only [hoj, Bool.or_eq_true, Bool.and_eq_true] at this
  rcases this with h | ⟨⟨h, h'⟩, h''⟩
  · exact .inl h
  · exact .inr ⟨h, h', h''⟩

def blk (base j o : Nat) : Prop := base + room * j ≤ o ∧ o < base + room * (j + 1)
theorem blk_inj {base j j' o : Nat} (h : blk base j o) (h' : blk base j' o) : j = j' := by
  unfold blk room at *
  omega

/-- A run in the text's order, with what each operation looked at and turned. -/
structure Trace (E : Env) (ops : Array Oper) (ms : List Nat) (base : Nat) (sq : Nat → St) (R W : Nat → List Nat) : Prop where
  step : ∀ i, i < ops.size → ∃ o b, ops[i]? = some o ∧ wantV ops (sq i) o = some b ∧ R i = (if b then opR (sq i) o.op else []) ∧ W i = (if b then opW E (sq i) o.op else []) ∧ stepV E ops (base + room * i) (sq i) i = some (sq (i + 1))
  own : ∀ i, i < ops.size → ∀ x ∈ R i, x < base ∨ ∃ j, (ms.getD i 0).testBit j = true ∧ blk base j x
  apart : ∀ j i, j < i → i < ops.size → (ms.getD i 0).testBit j = true ∨ ((∀ x ∈ W j, x ∉ R i) ∧ ∀ x ∈ W i, x ∉ R j)

section
variable {E : Env} {ops : Array Oper} {ms : List Nat} {base : Nat} {sq : Nat → St} {R W : Nat → List Nat}

def wT (ops : Array Oper) (j t : Nat) : Prop := ∃ o, ops[j]? = some o ∧ o.dst = some t
def wR (W : Nat → List Nat) (base j o : Nat) : Prop := o ∈ W j ∨ blk base j o

structure Inv (ops : Array Oper) (base : Nat) (sq : Nat → St) (W : Nat → List Nat) (S : Nat → Prop) (σ : St) : Prop where
  nx : σ.nx = (sq 0).nx
  len : σ.tm.length = (sq 0).tm.length
  tm : ∀ t k, k ≤ ops.size → (∀ j, j < k → wT ops j t → S j) → (∀ j, k ≤ j → j < ops.size → wT ops j t → ¬ S j) → σ.tm[t]? = (sq k).tm[t]?
  rt : ∀ o k, k ≤ ops.size → (∀ j, j < k → wR W base j o → S j) → (∀ j, k ≤ j → j < ops.size → wR W base j o → ¬ S j) → σ.rt o = (sq k).rt o

theorem putT_at {tm : List V} {d : Option Nat} {v : V} {t : Nat} (h : d = some t) : (putT tm d v)[t]? = if t < tm.length then some v else none := by
  subst h
  simp only [putT]
  by_cases hl : t < tm.length
  · rw [if_pos hl, List.getElem?_set_self hl]
  · rw [if_neg hl, List.getElem?_eq_none (by simpa using hl)]
theorem putT_ne {tm : List V} {d : Option Nat} {v : V} {t : Nat} (h : d ≠ some t) : (putT tm d v)[t]? = tm[t]? := by
  cases d with
  | none => rfl
  | some d => simp only [putT]; rw [List.getElem?_set_ne (by simpa using h)]

/-- One step, spelled. -/
theorem stepV_parts {id i : Nat} {st st' : St} {o : Oper} {b : Bool} (ho : ops[i]? = some o) (hb : wantV ops st o = some b) (h : stepV E ops id st i = some st') :
    ∃ v, st' = { st with tm := putT st.tm o.dst v, rt := st'.rt } ∧ ((b = true ∧ opV E id st o.op = some (v, st'.rt)) ∨ (b = false ∧ v = .und ∧ st'.rt = st.rt)) := by
  unfold stepV at h
  simp only [ho, hb, Option.bind_some] at h
  cases b with
  | true =>
    simp only [if_true, Option.map_eq_some_iff] at h
    obtain ⟨⟨v, rt'⟩, hv, rfl⟩ := h
    exact ⟨v, rfl, .inl ⟨rfl, hv⟩⟩
  | false =>
    simp only [Bool.false_eq_true, if_false, Option.some.injEq] at h
    subst h
    exact ⟨.und, rfl, .inr ⟨rfl, rfl, rfl⟩⟩

theorem Trace.tmF (T : Trace E ops ms base sq R W) {i t : Nat} (hi : i < ops.size) (h : ¬ wT ops i t) : (sq (i + 1)).tm[t]? = (sq i).tm[t]? := by
  obtain ⟨o, b, h1, h2, _, _, h5⟩ := T.step i hi
  obtain ⟨v, h6, _⟩ := stepV_parts h1 h2 h5
  rw [h6]
  exact putT_ne fun hd => h ⟨o, h1, hd⟩
theorem Trace.len (T : Trace E ops ms base sq R W) {i : Nat} (hi : i ≤ ops.size) : (sq i).tm.length = (sq 0).tm.length := by
  induction i with
  | zero => rfl
  | succ i ih =>
    obtain ⟨o, b, h1, h2, _, _, h5⟩ := T.step i (by omega)
    obtain ⟨v, h6, _⟩ := stepV_parts h1 h2 h5
    rw [h6]
    simp only [putT_len]
    exact ih (by omega)
theorem Trace.nx (T : Trace E ops ms base sq R W) {i : Nat} (hi : i ≤ ops.size) : (sq i).nx = (sq 0).nx := by
  induction i with
  | zero => rfl
  | succ i ih =>
    obtain ⟨o, b, h1, h2, _, _, h5⟩ := T.step i (by omega)
    obtain ⟨v, h6, _⟩ := stepV_parts h1 h2 h5
    rw [h6]
    exact ih (by omega)
theorem Trace.rtF (T : Trace E ops ms base sq R W) {i o : Nat} (hi : i < ops.size) (h : ¬ wR W base i o) : (sq (i + 1)).rt o = (sq i).rt o := by
  obtain ⟨op, b, h1, h2, _, h4, h5⟩ := T.step i hi
  obtain ⟨v, _, h6 | h6⟩ := stepV_parts h1 h2 h5
  · rw [if_pos h6.1] at h4
    refine opV_w h6.2 (fun hw => h (.inl (by rw [h4]; exact hw))) fun hb => h (.inr ?_)
    unfold blk
    exact ⟨hb.1, by have := hb.2; rw [Nat.mul_add]; omega⟩
  · rw [h6.2.2]
theorem Trace.tmS (T : Trace E ops ms base sq R W) {t a b : Nat} (hab : a ≤ b) (hb : b ≤ ops.size) (h : ∀ j, a ≤ j → j < b → ¬ wT ops j t) : (sq b).tm[t]? = (sq a).tm[t]? := by
  induction b with
  | zero => have : a = 0 := by omega
            subst this; rfl
  | succ b ih =>
    by_cases he : a = b + 1
    · subst he; rfl
    · rw [T.tmF (by omega) (h b (by omega) (by omega))]
      exact ih (by omega) (by omega) fun j h1 h2 => h j h1 (by omega)
theorem Trace.rtS (T : Trace E ops ms base sq R W) {o a b : Nat} (hab : a ≤ b) (hb : b ≤ ops.size) (h : ∀ j, a ≤ j → j < b → ¬ wR W base j o) : (sq b).rt o = (sq a).rt o := by
  induction b with
  | zero => have : a = 0 := by omega
            subst this; rfl
  | succ b ih =>
    by_cases he : a = b + 1
    · subst he; rfl
    · rw [T.rtF (by omega) (h b (by omega) (by omega))]
      exact ih (by omega) (by omega) fun j h1 h2 => h j h1 (by omega)

theorem Inv.init (T : Trace E ops ms base sq R W) : Inv ops base sq W (fun _ => False) (sq 0) :=
  ⟨rfl, rfl, fun t k hk h1 _ => (T.tmS (Nat.zero_le _) hk fun j _ hj hw => h1 j hj hw).symm, fun o k hk h1 _ => (T.rtS (Nat.zero_le _) hk fun j _ hj hw => h1 j hj hw).symm⟩

theorem Inv.final (T : Trace E ops ms base sq R W) {S : Nat → Prop} {σ : St} (I : Inv ops base sq W S σ) (h : ∀ j, j < ops.size → S j) : σ = sq ops.size := by
  have h1 : σ.tm = (sq ops.size).tm := List.ext_getElem? fun t => I.tm t ops.size (Nat.le_refl _) (fun j hj _ => h j hj) fun j h1 h2 => absurd h2 (by omega)
  have h2 : σ.rt = (sq ops.size).rt := funext fun o => I.rt o ops.size (Nat.le_refl _) (fun j hj _ => h j hj) fun j h1 h2 => absurd h2 (by omega)
  have h3 : σ.nx = (sq ops.size).nx := by rw [I.nx, T.nx (Nat.le_refl _)]
  cases σ
  simp only at h1 h2 h3
  rw [h1, h2, h3]

/-- What has been done is closed under what must stand before. -/
def Closed (ops : Array Oper) (S : Nat → Prop) : Prop := ∀ i o, ops[i]? = some o → S i → ∀ j ∈ pre o, S j

theorem anc_in (hs : static ops ms = true) {S : Nat → Prop} (hc : Closed ops S) : ∀ {i : Nat} {o : Oper}, ops[i]? = some o → (∀ j ∈ pre o, S j) → ∀ j, (ms.getD i 0).testBit j = true → S j ∧ j < i := by
  intro i
  induction i using Nat.strongRecOn with
  | _ i ih =>
    intro o ho hp j hj
    have so := static_spec hs ho
    rw [so.mask] at hj
    rcases maskF_bit hj with h | ⟨k, hk, h⟩
    · simp at h
    · have hki := so.pre k hk
      rcases h with rfl | h
      · exact ⟨hp _ hk, hki⟩
      · have hlt : k < ops.size := by have := (Array.getElem?_eq_some_iff.1 ho).1; omega
        obtain ⟨h1, h2⟩ := ih k hki (Array.getElem?_eq_getElem hlt) (fun x hx => hc k _ (Array.getElem?_eq_getElem hlt) (hp k hk) x hx) j h
        exact ⟨h1, by omega⟩
end
end Go.Ln
/- Regions whose order is drawn: one step out of the text's order. -/
set_option linter.unusedVariables false
set_option linter.unusedSimpArgs false
set_option linter.unusedSectionVars false
namespace Go.Ln
open Go
variable {E : Env} {ops : Array Oper} {ms : List Nat} {base : Nat} {sq : Nat → St} {R W : Nat → List Nat}

theorem ev_tm {st st2 : St} {x : Operand} (h : ∀ t, x = .tmp t → st2.tm[t]? = st.tm[t]?) : ev st2 x = ev st x := by
  cases x with
  | tmp t => exact h t rfl
  | _ => rfl

theorem want_tm {st st2 : St} {o : Oper} (h : ∀ t ∈ guardTmp ops o, st2.tm[t]? = st.tm[t]?) : wantV ops st2 o = wantV ops st o := by
  unfold wantV
  cases hg : o.guard with
  | none => rfl
  | some g =>
    obtain ⟨j, w⟩ := g
    simp only
    have : yieldV ops st2 j = yieldV ops st j := by
      unfold yieldV
      cases hd : (ops[j]?).bind (·.dst) with
      | none => rfl
      | some d =>
        simp only [Option.bind_some]
        rw [h d (by simp [guardTmp, hg, hd])]
    rw [this]

theorem apartT_not {l : List Nat} {d : Option Nat} {t : Nat} (h : apartT l d = true) (hd : d = some t) : t ∉ l := by
  subst hd
  simpa [apartT] using h

theorem inv_step (hs : static ops ms = true) (T : Trace E ops ms base sq R W) {S : Nat → Prop} {σ : St} (I : Inv ops base sq W S σ) (hc : Closed ops S) {i : Nat} {oi : Oper} (hi : ops[i]? = some oi) (hni : ¬ S i) (hp : ∀ j ∈ pre oi, S j) :
    ∃ σ', stepV E ops (base + room * i) σ i = some σ' ∧ Inv ops base sq W (fun j => S j ∨ j = i) σ' := by
  have hin : i < ops.size := (Array.getElem?_eq_some_iff.1 hi).1
  have anc : ∀ j, (ms.getD i 0).testBit j = true → S j ∧ j < i := anc_in hs hc hi hp
  have so := static_spec hs hi
  have ops_get : ∀ j, j < ops.size → ∃ oj, ops[j]? = some oj := fun j hj => ⟨_, Array.getElem?_eq_getElem hj⟩
  -- behind 'i' nothing that hangs on it has been done
  have later : ∀ j, j < ops.size → S j → (ms.getD j 0).testBit i = true → False := fun j hj hS hb => by
    obtain ⟨oj, hoj⟩ := ops_get j hj
    exact hni (anc_in hs hc hoj (fun k hk => hc j oj hoj hS k hk) i hb).1
  have bitlt : ∀ j, j < ops.size → ∀ k, (ms.getD j 0).testBit k = true → k < j := fun j hj k hb => by
    obtain ⟨oj, hoj⟩ := ops_get j hj
    exact (anc_in hs (S := fun _ => True) (fun _ _ _ _ _ _ => trivial) hoj (fun _ _ => trivial) k hb).2
  obtain ⟨o, b, h1, h2, hR, hW, h5⟩ := T.step i hin
  rw [hi] at h1
  cases h1
  -- the operands
  have tmEq : ∀ t ∈ looks ops oi, σ.tm[t]? = (sq i).tm[t]? := fun t ht => by
    refine I.tm t i (Nat.le_of_lt hin) (fun j hj hw => ?_) (fun j hij hjn hw hS => ?_)
    · obtain ⟨oj, hoj, hd⟩ := hw
      rcases so.pair j hj oj hoj with h | ⟨h, _, _⟩
      · exact (anc j h).1
      · exact absurd ht (apartT_not h hd)
    · obtain ⟨oj, hoj, hd⟩ := hw
      by_cases he : j = i
      · subst he; exact hni hS
      · rcases (static_spec hs hoj).pair i (by omega) oi hi with h | ⟨_, h, _⟩
        · exact later j hjn hS h
        · exact absurd ht (apartT_not h hd)
  have hwant : wantV ops σ oi = some b := by
    rw [want_tm fun t ht => tmEq t (by simp [looks, ht]), h2]
  have hev : ∀ x ∈ oi.op.operands.toList, ev σ x = ev (sq i) x := fun x hx => ev_tm fun t ht => tmEq t (by
    subst ht
    simp only [looks, List.mem_append]
    exact .inl (List.mem_filterMap.2 ⟨_, hx, rfl⟩))
  -- the rows
  have sub : ∀ j, j < ops.size → ∀ x ∈ W j, x ∈ R j := fun j hj x hx => by
    obtain ⟨oj, bj, _, _, hRj, hWj, _⟩ := T.step j hj
    rw [hWj] at hx
    rw [hRj]
    cases bj with
    | true => exact opW_sub hx
    | false => cases hx
  let H : Nat → Prop := fun x => x ∈ R i ∨ blk base i x
  have other : ∀ j, j < ops.size → j ≠ i → ∀ x, H x → wR W base j x → (j < i ∧ S j) ∨ (i < j ∧ ¬ S j) := by
    intro j hj hne x hH hw
    rcases Nat.lt_or_gt_of_ne hne with hlt | hgt
    · left
      refine ⟨hlt, ?_⟩
      rcases hw with hw | hw <;> rcases hH with hH | hH
      · rcases T.apart j i hlt hin with h | ⟨h, _⟩
        · exact (anc j h).1
        · exact absurd hH (h x hw)
      · exfalso
        rcases T.own j hj x (sub j hj x hw) with h | ⟨k, hk, hb⟩
        · have := hH.1; omega
        · have := blk_inj hb hH
          subst this
          have := bitlt j hj k hk
          omega
      · rcases T.own i hin x hH with h | ⟨k, hk, hb⟩
        · have := hw.1; omega
        · have := blk_inj hb hw
          subst this
          exact (anc k hk).1
      · exact absurd (blk_inj hw hH) hne
    · right
      refine ⟨hgt, fun hS => ?_⟩
      rcases hw with hw | hw <;> rcases hH with hH | hH
      · rcases T.apart i j hgt hj with h | ⟨_, h⟩
        · exact later j hj hS h
        · exact h x hw hH
      · rcases T.own j hj x (sub j hj x hw) with h | ⟨k, hk, hb⟩
        · have := hH.1; omega
        · have := blk_inj hb hH
          subst this
          exact later j hj hS hk
      · rcases T.own i hin x hH with h | ⟨k, hk, hb⟩
        · have := hw.1; omega
        · have := blk_inj hb hw
          subst this
          have := bitlt i hin k hk
          omega
      · exact absurd (blk_inj hw hH) hne
  have ag : Ag H (sq i).rt σ.rt := fun x hx => by
    refine I.rt x i (Nat.le_of_lt hin) (fun j hj hw => ?_) (fun j hij hjn hw hS => ?_)
    · rcases other j (by omega) (by omega) x hx hw with h | h
      · exact h.2
      · omega
    · by_cases he : j = i
      · subst he; exact hni hS
      · rcases other j hjn he x hx hw with h | h
        · omega
        · exact h.2 hS
  obtain ⟨v, hsq, hcase⟩ := stepV_parts hi h2 h5
  have hstep : ∃ rt3, stepV E ops (base + room * i) σ i = some { σ with tm := putT σ.tm oi.dst v, rt := rt3 } ∧ Lk H (sq i).rt (sq (i + 1)).rt σ.rt rt3 := by
    rcases hcase with ⟨hb, hop⟩ | ⟨hb, hv, hrt⟩
    · subst hb
      simp only [if_true] at hR
      obtain ⟨rt3, h3, k3⟩ := opV_lk (H := H) (fun x h1 h2 => .inr ⟨h1, by rw [Nat.mul_add]; omega⟩) (fun x hx => .inl (by rw [hR]; exact hx)) hev ag hop
      refine ⟨rt3, ?_, k3⟩
      unfold stepV
      simp only [hi, hwant, Option.bind_some, if_true, h3, Option.map_some]
    · subst hb
      refine ⟨σ.rt, ?_, ?_⟩
      · unfold stepV
        simp only [hi, hwant, Option.bind_some, Bool.false_eq_true, if_false, hv]
      · rw [hrt]; exact Lk.refl ag
  obtain ⟨rt3, h3, k3⟩ := hstep
  have wH : ∀ x, wR W base i x → H x := fun x hw => hw.imp (sub i hin x) id
  refine ⟨_, h3, ⟨I.nx, by simp only [putT_len]; exact I.len, fun t k hk q1 q2 => ?_, fun x k hk q1 q2 => ?_⟩⟩
  · by_cases hd : oi.dst = some t
    · have hik : i < k := Nat.lt_of_not_le fun hle => q2 i hle hin ⟨oi, hi, hd⟩ (.inr rfl)
      have e1 : (sq k).tm[t]? = (sq (i + 1)).tm[t]? := T.tmS hik hk fun j hj1 hj2 hw => by
        have hS : S j := (q1 j hj2 hw).resolve_right (by omega)
        obtain ⟨oj, hoj, hdj⟩ := hw
        rcases (static_spec hs hoj).pair i (by omega) oi hi with h | ⟨_, _, h⟩
        · exact later j (by omega) hS h
        · rw [hd, hdj] at h
          simp [apartD] at h
      rw [e1, hsq]
      simp only
      rw [putT_at hd, putT_at hd, I.len, T.len (Nat.le_of_lt hin)]
    · simp only
      rw [putT_ne hd]
      exact I.tm t k hk (fun j hj hw => (q1 j hj hw).resolve_right (by
        rintro rfl
        obtain ⟨oj, hoj, hdj⟩ := hw
        rw [hi] at hoj
        cases hoj
        exact hd hdj)) (fun j hj1 hj2 hw hS => q2 j hj1 hj2 hw (.inl hS))
  · simp only
    by_cases hH : H x
    · rw [(k3 x).1 hH]
      by_cases hw : wR W base i x
      · have hik : i < k := Nat.lt_of_not_le fun hle => q2 i hle hin hw (.inr rfl)
        refine (T.rtS hik hk fun j hj1 hj2 hwj => ?_).symm
        have hS : S j := (q1 j hj2 hwj).resolve_right (by omega)
        rcases other j (by omega) (by omega) x hH hwj with h | h
        · omega
        · exact h.2 hS
      · rw [T.rtF hin hw, ← ag x hH]
        exact I.rt x k hk (fun j hj hwj => (q1 j hj hwj).resolve_right (by rintro rfl; exact hw hwj)) (fun j hj1 hj2 hwj hS => q2 j hj1 hj2 hwj (.inl hS))
    · rw [((k3 x).2 hH).1]
      exact I.rt x k hk (fun j hj hwj => (q1 j hj hwj).resolve_right (by rintro rfl; exact hH (wH x hwj))) (fun j hj1 hj2 hwj hS => q2 j hj1 hj2 hwj (.inl hS))

/-! ### orders -/
def opsV (E : Env) (ops : Array Oper) (base : Nat) : List Nat → St → Option St
  | [], st => some st
  | i :: is, st => (stepV E ops (base + room * i) st i).bind (opsV E ops base is)

def Topo (ops : Array Oper) : (Nat → Prop) → List Nat → Prop
  | S, [] => ∀ j, j < ops.size → S j
  | S, i :: is => ¬ S i ∧ (∃ o, ops[i]? = some o ∧ ∀ j ∈ pre o, S j) ∧ Topo ops (fun j => S j ∨ j = i) is

theorem topo_run (hs : static ops ms = true) (T : Trace E ops ms base sq R W) : ∀ {is : List Nat} {S : Nat → Prop} {σ : St}, Inv ops base sq W S σ → Closed ops S → Topo ops S is → opsV E ops base is σ = some (sq ops.size)
  | [], S, σ, I, hc, ht => by
    have := I.final T ht
    subst this
    rfl
  | i :: is, S, σ, I, hc, ht => by
    obtain ⟨hni, ⟨o, ho, hp⟩, ht⟩ := ht
    obtain ⟨σ', h1, I'⟩ := inv_step hs T I hc ho hni hp
    simp only [opsV, h1, Option.bind_some]
    refine topo_run hs T I' (fun j oj hoj hS k hk => ?_) ht
    rcases hS with hS | rfl
    · exact .inl (hc j oj hoj hS k hk)
    · rw [ho] at hoj
      cases hoj
      exact .inl (hp k hk)

theorem binds_any {e : Edge} : Region.binds .any e = modeFree e := by
  unfold Region.binds modeFree
  cases e.ground <;> rfl

theorem pre_binds {o : Oper} {j : Nat} : j ∈ pre o ↔ ∃ e ∈ o.after, Region.binds .any e = true ∧ e.on = j := by
  unfold pre
  simp only [List.mem_map, List.mem_filter, Array.mem_toList_iff, binds_any]
  exact ⟨fun ⟨e, ⟨h1, h2⟩, h3⟩ => ⟨e, h1, h2, h3⟩, fun ⟨e, h1, h2, h3⟩ => ⟨e, ⟨h1, h2⟩, h3⟩⟩

theorem go_topo (hs : static ops ms = true) : ∀ (fuel t : Nat) (listed : Array Bool), listed.size = ops.size → (∀ l : List Nat, l.Nodup → (∀ j ∈ l, j < ops.size ∧ listed.getD j false = false) → l.length ≤ fuel) →
    Topo ops (fun j => listed.getD j false = true) (Region.linearise.go .any ops fuel t listed [])
  | 0, t, listed, hsz, hf => by
    simp only [Region.linearise.go, List.reverse_nil, Topo]
    intro j hj
    by_cases h : listed.getD j false = true
    · exact h
    · have := hf [j] (by simp) (by simp only [List.mem_singleton, forall_eq]; exact ⟨hj, by simpa using h⟩)
      simp at this
  | fuel + 1, t, listed, hsz, hf => by
    simp only [Region.linearise.go]
    change Topo ops _ (match (Region.ready .any ops listed)[t % (Region.ready .any ops listed).length]? with
      | some i => Region.linearise.go .any ops fuel (t / (Region.ready .any ops listed).length) (listed.setIfInBounds i true) [i]
      | none => [].reverse)
    cases hi : (Region.ready .any ops listed)[t % (Region.ready .any ops listed).length]? with
    | none =>
      have hnil : Region.ready .any ops listed = [] := by
        cases hr : Region.ready .any ops listed with
        | nil => rfl
        | cons x xs =>
          rw [hr] at hi
          have hlt : t % (x :: xs).length < (x :: xs).length := Nat.mod_lt _ (by simp)
          simp at hi
          simp at hlt
          omega
      simp only [List.reverse_nil, Topo]
      intro j
      induction j using Nat.strongRecOn with
      | _ j ih =>
        intro hj
        by_cases h : listed.getD j false = true
        · exact h
        · exfalso
          have : j ∈ Region.ready .any ops listed := by
            rw [mem_ready]
            refine ⟨?_, _, Array.getElem?_eq_getElem hj, fun e he hb => ?_⟩
            · have hlt : j < listed.size := by omega
              simpa [Array.getD, hlt] using h
            · have hk : e.on ∈ pre ops[j] := pre_binds.2 ⟨e, he, hb, rfl⟩
              have := (static_spec hs (Array.getElem?_eq_getElem hj)).pre _ hk
              exact ih _ this (by omega)
          rw [hnil] at this
          cases this
    | some i =>
      simp only
      rw [linearise_go_acc, List.reverse_singleton, List.singleton_append]
      have hm := List.mem_of_getElem? hi
      rw [mem_ready] at hm
      obtain ⟨h0, o, ho, hall⟩ := hm
      have hin : i < ops.size := (Array.getElem?_eq_some_iff.1 ho).1
      have hil : i < listed.size := by omega
      have hni : listed.getD i false = false := by simpa [Array.getD, hil] using h0
      have ih := go_topo hs fuel (t / (Region.ready .any ops listed).length) (listed.setIfInBounds i true) (by simpa using hsz) (fun l hl hj => by
        have hnil : i ∉ l := fun hm => by
          have := (hj i hm).2
          simp [Array.getD, hil] at this
        have := hf (i :: l) (List.nodup_cons.2 ⟨hnil, hl⟩) (fun j hjm => by
          rcases List.mem_cons.1 hjm with rfl | hjm
          · exact ⟨hin, hni⟩
          · obtain ⟨q1, q2⟩ := hj j hjm
            refine ⟨q1, ?_⟩
            rwa [getD_set_ne false (by rintro rfl; exact hnil hjm)] at q2)
        simpa using this)
      have hni' : ¬ (listed.getD i false = true) := by rw [hni]; simp
      refine ⟨hni', ⟨o, ho, fun j hj => ?_⟩, ?_⟩
      · obtain ⟨e, he, hb, rfl⟩ := pre_binds.1 hj
        exact hall e he hb
      · have : (fun j => (listed.setIfInBounds i true).getD j false = true) = (fun j => listed.getD j false = true ∨ j = i) := by
          funext j
          apply propext
          by_cases he : j = i
          · subst he
            simp [Array.getD, hil]
          · rw [getD_set_ne false (Ne.symm he)]
            simp [he]
        rw [this] at ih
        exact ih

theorem nodup_le : ∀ {n : Nat} {l : List Nat}, l.Nodup → (∀ j ∈ l, j < n) → l.length ≤ n
  | 0, [], _, _ => by simp
  | 0, x :: l, _, h => absurd (h x (by simp)) (by omega)
  | n + 1, l, hl, h => by
    by_cases hn : n ∈ l
    · have h1 := nodup_le (n := n) (hl.erase n) fun j hj => by
        rw [hl.mem_erase_iff] at hj
        have := h j hj.2
        omega
      rw [List.length_erase_of_mem hn] at h1
      omega
    · have := nodup_le (n := n) hl fun j hj => by
        have := h j hj
        have : j ≠ n := by rintro rfl; exact hn hj
        omega
      omega

theorem schedule_topo (hs : static ops ms = true) (t : Nat) : Topo ops (fun _ => False) (Region.schedule true ops t) := by
  have h := go_topo hs ops.size t (Array.replicate ops.size false) (by simp) fun l hl hj => nodup_le hl fun j hjm => (hj j hjm).1
  have e : (fun j => (Array.replicate ops.size false).getD j false = true) = fun _ => False := by
    funext j
    apply propext
    simp [Array.getD]
  rw [e] at h
  simpa [Region.schedule, Region.linearise] using h

/-- Whatever the order: the text's state. -/
theorem any_order (hs : static ops ms = true) (T : Trace E ops ms base sq R W) (t : Nat) : opsV E ops base (Region.schedule true ops t) (sq 0) = some (sq ops.size) :=
  topo_run hs T (Inv.init T) (fun _ _ _ h => h.elim) (schedule_topo hs t)

theorem topo_nodup {S : Nat → Prop} : ∀ {is : List Nat}, Topo ops S is → is.Nodup ∧ ∀ i ∈ is, ¬ S i ∧ i < ops.size
  | [], _ => by simp
  | i :: is, ⟨h1, ⟨o, ho, _⟩, h2⟩ => by
    obtain ⟨h3, h4⟩ := topo_nodup h2
    refine ⟨List.nodup_cons.2 ⟨fun hm => (h4 i hm).1 (.inr rfl), h3⟩, fun j hj => ?_⟩
    rcases List.mem_cons.1 hj with rfl | hj
    · exact ⟨h1, (Array.getElem?_eq_some_iff.1 ho).1⟩
    · exact ⟨fun h => (h4 j hj).1 (.inl h), (h4 j hj).2⟩
end Go.Ln
/- What the interpreter runs to an end, the machine runs to an end; drawn regions too. -/
set_option linter.unusedVariables false
set_option linter.unusedSimpArgs false
set_option linter.unusedSectionVars false
namespace Go.Ln
open Go

abbrev Log := List (Nat × List Nat × List Nat)
def okD (base : Nat) (ms : List Nat) (i : Nat) (R W : List Nat) (log : Log) : Bool :=
  R.all (fun x => decide (x < base) || (ms.getD i 0).testBit ((x - base) / room)) &&
  log.all fun e => (ms.getD i 0).testBit e.1 || (e.2.2.all (fun x => !R.contains x) && W.all fun x => !e.2.1.contains x)

def dstepV (E : Env) (ops : Array Oper) (ms : List Nat) (i : Nat) (log : Log) (st : St) : Option (Log × St) :=
  (ops[i]?).bind fun o => (wantV ops st o).bind fun b =>
    if okD st.nx ms i (if b then opR st o.op else []) (if b then opW E st o.op else []) log then
      (stepV E ops (st.nx + room * i) st i).map fun st' => ((i, (if b then opR st o.op else []), (if b then opW E st o.op else [])) :: log, st') else none

def noD : List It → Bool
  | .dops _ _ _ _ :: _ => false
  | _ => true

/-- The interpreter comes to an end in a state that 'Q' holds of. -/
inductive Run (E : Env) (m : Nat) (Q : St → Prop) : List It → St → Prop
  | done {st} (h : Q st) : Run E m Q [] st
  | step {k k' st st'} (h : step1 E k st = some (k', st')) (r : Run E m Q k' st') : Run E m Q k st
  | forget {k st} (L : List Nat) (hk : noD k = true) (r : Run E m Q k (normSt m L st)) : Run E m Q k st
  | split {k st} (S : St → Prop) (hk : noD k = true) (h : ∀ {G : Ground} {w0 w : World} {ρ0 ρ : Own} {a : Act}, Rel G m w0 ρ0 w ρ st a → ∃ st', S st' ∧ Rel G m w0 ρ0 w ρ st' a) (r : ∀ st', S st' → Run E m Q k st') : Run E m Q k st
  | draw {id ops k st} (ms : List Nat) (hs : static ops ms = true) (r : Run E m Q (.dops ops ms 0 [] :: k) st) : Run E m Q (.code (.region id ops true) :: k) st
  | dop {ops ms i log log' k st st'} (h : dstepV E ops ms i log st = some (log', st')) (r : Run E m Q (.dops ops ms (i + 1) log' :: k) st') : Run E m Q (.dops ops ms i log :: k) st
  | dend {ops ms i log k st} (h : ops.size ≤ i) (r : Run E m Q k { st with nx := st.nx + room * ops.size }) : Run E m Q (.dops ops ms i log :: k) st

theorem Run.steps {E : Env} {m : Nat} {Q : St → Prop} : ∀ {n : Nat} {k k' : List It} {st st' : St}, stepN E n k st = some (k', st') → Run E m Q k' st' → Run E m Q k st
  | 0, k, k', st, st', h, r => by simp [stepN] at h; obtain ⟨rfl, rfl⟩ := h; exact r
  | n + 1, k, k', st, st', h, r => by
    simp only [stepN] at h
    split at h
    · rename_i k1 st1 h1
      exact .step h1 (Run.steps h r)
    · cases h

/-! ### a drawn region's run in the text's order -/
inductive DRun (E : Env) (ops : Array Oper) (ms : List Nat) : Nat → Log → St → St → Prop
  | done {i log st} (h : ops.size ≤ i) : DRun E ops ms i log st st
  | step {i log log' st st1 st'} (h : dstepV E ops ms i log st = some (log', st1)) (r : DRun E ops ms (i + 1) log' st1 st') : DRun E ops ms i log st st'

theorem dstep_parts {E : Env} {ops : Array Oper} {ms : List Nat} {i : Nat} {log log' : Log} {st st' : St} (h : dstepV E ops ms i log st = some (log', st')) :
    ∃ o b R W, ops[i]? = some o ∧ wantV ops st o = some b ∧ R = (if b then opR st o.op else []) ∧ W = (if b then opW E st o.op else []) ∧ okD st.nx ms i R W log = true ∧ stepV E ops (st.nx + room * i) st i = some st' ∧ log' = (i, R, W) :: log := by
  simp only [dstepV, Option.bind_eq_some_iff] at h
  obtain ⟨o, ho, b, hb, h⟩ := h
  generalize hR : (if b = true then opR st o.op else []) = R at h
  generalize hW : (if b = true then opW E st o.op else []) = W at h
  split at h
  · rename_i hok
    simp only [Option.map_eq_some_iff, Prod.mk.injEq] at h
    obtain ⟨x, hx, rfl, rfl⟩ := h
    exact ⟨o, b, R, W, ho, hb, hR.symm, hW.symm, hok, hx, rfl⟩
  · cases h

theorem okD_spec {base : Nat} {ms : List Nat} {i : Nat} {R W : List Nat} {log : Log} (h : okD base ms i R W log = true) :
    (∀ x ∈ R, x < base ∨ ∃ j, (ms.getD i 0).testBit j = true ∧ blk base j x) ∧ ∀ e ∈ log, (ms.getD i 0).testBit e.1 = true ∨ ((∀ x ∈ e.2.2, x ∉ R) ∧ ∀ x ∈ W, x ∉ e.2.1) := by
  simp only [okD, Bool.and_eq_true, List.all_eq_true, Bool.or_eq_true, decide_eq_true_eq, Bool.not_eq_true', List.contains_eq_mem, decide_eq_false_iff_not] at h
  refine ⟨fun x hx => ?_, fun e he => ?_⟩
  · by_cases hlt : x < base
    · exact .inl hlt
    · right
      refine ⟨_, (h.1 x hx).resolve_left hlt, ?_⟩
      unfold blk room
      have := Nat.div_add_mod (x - base) 16
      have := Nat.mod_lt (x - base) (show 16 > 0 by omega)
      omega
  · exact h.2 e he

theorem stepV_nx {E : Env} {ops : Array Oper} {id i : Nat} {st st' : St} (h : stepV E ops id st i = some st') : st'.nx = st.nx := by
  unfold stepV at h
  split at h
  · cases h; rfl
  · simp only [Option.bind_eq_some_iff] at h
    obtain ⟨b, _, h⟩ := h
    split at h
    · simp only [Option.map_eq_some_iff] at h
      obtain ⟨_, _, rfl⟩ := h
      rfl
    · cases h; rfl

theorem DRun.trace {E : Env} {ops : Array Oper} {ms : List Nat} {i : Nat} {log : Log} {st st' : St} (r : DRun E ops ms i log st st') : i ≤ ops.size → ∃ (sq : Nat → St) (R W : Nat → List Nat), sq i = st ∧ sq ops.size = st' ∧
    (∀ j, i ≤ j → j < ops.size → ∃ o b, ops[j]? = some o ∧ wantV ops (sq j) o = some b ∧ R j = (if b then opR (sq j) o.op else []) ∧ W j = (if b then opW E (sq j) o.op else []) ∧ stepV E ops (st.nx + room * j) (sq j) j = some (sq (j + 1))) ∧
    (∀ j, i ≤ j → j < ops.size → ∀ x ∈ R j, x < st.nx ∨ ∃ k, (ms.getD j 0).testBit k = true ∧ blk st.nx k x) ∧
    (∀ j k, i ≤ j → j < k → k < ops.size → (ms.getD k 0).testBit j = true ∨ ((∀ x ∈ W j, x ∉ R k) ∧ ∀ x ∈ W k, x ∉ R j)) ∧
    (∀ e ∈ log, ∀ k, i ≤ k → k < ops.size → (ms.getD k 0).testBit e.1 = true ∨ ((∀ x ∈ e.2.2, x ∉ R k) ∧ ∀ x ∈ W k, x ∉ e.2.1)) := by
  induction r with
  | @done i log st h =>
    intro hi
    have : i = ops.size := by omega
    subst this
    exact ⟨fun _ => st, fun _ => [], fun _ => [], rfl, rfl, fun j h1 h2 => absurd h2 (by omega), fun j h1 h2 => absurd h2 (by omega), fun j k h1 h2 h3 => absurd h3 (by omega), fun e _ k h1 h2 => absurd h2 (by omega)⟩
  | @step i log log' st st1 st' h r ih =>
    intro hi
    obtain ⟨o, b, R0, W0, ho, hb, hR, hW, hok, hst, rfl⟩ := dstep_parts h
    have hin : i < ops.size := (Array.getElem?_eq_some_iff.1 ho).1
    obtain ⟨sq, R, W, q1, q2, q3, q4, q5, q6⟩ := ih (by omega)
    have hnx : st1.nx = st.nx := stepV_nx hst
    obtain ⟨ok1, ok2⟩ := okD_spec hok
    refine ⟨fun j => if j = i then st else sq j, fun j => if j = i then R0 else R j, fun j => if j = i then W0 else W j, by simp, by simp only; rw [if_neg (by omega)]; exact q2, fun j h1 h2 => ?_, fun j h1 h2 => ?_, fun j k h1 h2 h3 => ?_, fun e he k h1 h2 => ?_⟩
    · by_cases hj : j = i
      · subst hj
        simp only [if_true, if_neg (show ¬ j + 1 = j by omega)]
        exact ⟨o, b, ho, hb, hR, hW, by rw [q1]; exact hst⟩
      · simp only [if_neg hj, if_neg (show ¬ j + 1 = i by omega)]
        obtain ⟨o', b', p1, p2, p3, p4, p5⟩ := q3 j (by omega) h2
        exact ⟨o', b', p1, p2, p3, p4, by rw [← hnx]; exact p5⟩
    · by_cases hj : j = i
      · subst hj
        simp only [if_true]
        exact ok1
      · simp only [if_neg hj]
        rw [← hnx]
        exact q4 j (by omega) h2
    · by_cases hj : j = i
      · subst hj
        simp only [if_true, if_neg (show ¬ k = j by omega)]
        exact q6 (j, R0, W0) (by simp) k (by omega) h3
      · simp only [if_neg hj, if_neg (show ¬ k = i by omega)]
        exact q5 j k (by omega) h2 h3
    · by_cases hk : k = i
      · subst hk
        simp only [if_true]
        exact ok2 e he
      · simp only [if_neg hk]
        exact q6 e (List.mem_cons_of_mem _ he) k (by omega) h2

theorem DRun.any {E : Env} {ops : Array Oper} {ms : List Nat} {st st' : St} (hs : static ops ms = true) (r : DRun E ops ms 0 [] st st') (t : Nat) : opsV E ops st.nx (Region.schedule true ops t) st = some st' := by
  obtain ⟨sq, R, W, q1, q2, q3, q4, q5, q6⟩ := r.trace (Nat.zero_le _)
  have T : Trace E ops ms st.nx sq R W := ⟨fun i hi => q3 i (Nat.zero_le _) hi, fun i hi => q4 i (Nat.zero_le _) hi, fun j i hj hi => q5 j i (Nat.zero_le _) hj hi⟩
  have := any_order hs T t
  rwa [q1, q2] at this
end Go.Ln
/- What the interpreter runs to an end, the machine runs to an end: the proof. -/
set_option linter.unusedVariables false
set_option linter.unusedSimpArgs false
set_option linter.unusedSectionVars false
namespace Go.Ln
open Go
variable {G : Ground} {m : Nat} {w0 w : World} {ρ0 ρ : Own} {st st' : St} {a : Act}

theorem RelU.drawn {Un : Nat → Prop} (R : RelU Un G m w0 ρ0 w ρ st a) : RelU Un G m w0 ρ0 { w with drawn := w.drawn + 1 } ρ st a := by
  have K : Keep (fun _ _ => False) w ρ st.rt { w with drawn := w.drawn + 1 } ρ st.rt := ⟨fun b hb _ => ⟨hb, rfl⟩, fun o nv p _ hl => ⟨hl, fun b n h1 h2 => ⟨h1, h2⟩⟩, fun b l h => ⟨h, rfl⟩⟩
  have Wd : Wk w { w with drawn := w.drawn + 1 } := ⟨rfl, rfl, rfl, Nat.le_refl _, fun _ _ h => h⟩
  exact { R with
    tm := ⟨R.tm.1, fun i v u hv hu => (R.tm.2 i v u hv hu).keep K (noNew_mono (by rintro _ _ h; exact h.elim) (R.tmn i v hv))⟩
    rok := fun o r hr => RowOk.under K (fun b l hb _ => ⟨hb, rfl⟩) (R.rok o r hr) (R.rtn o r hr)
    lab := ⟨R.lab.l, R.lab.z, R.lab.f⟩
    wk := R.wk.trans Wd
    gr := Ground.keep R.gr K.k1 Wd }

section
variable {P : Program} {E : Env} (hG : ∀ f e, E.fn f = some e → Good P G f e) (A : Agree P E)
include hG A

def useU (base n : Nat) (is : List Nat) : Nat → Prop := fun o => base + room * n ≤ o ∨ ∃ i ∈ is, blk base i o

theorem ops_sound {ops : Array Oper} {base : Nat} (hb0 : 0 < base) {Q : Exit → Act → World → Prop} : ∀ {is : List Nat} {st : St} {w : World} {ρ : Own} {a : Act}, is.Nodup → (∀ i ∈ is, i < ops.size) → opsV E ops base is st = some st' → RelU (useU base ops.size is) G m w0 ρ0 w ρ st a →
    (∀ w ρ a, RelU (past (base + room * ops.size)) G m w0 ρ0 w ρ st' a → Q .normal a w) → wpOps P ops Q is a w
  | [], st, w, ρ, a, hd, hl, h, R, hQ => by
    simp only [opsV, Option.some.injEq] at h
    subst h
    simp only [wpOps]
    exact hQ w ρ a (R.mono (nx := st.nx) fun o ho => .inl ho)
  | i :: is, st, w, ρ, a, hd, hl, h, R, hQ => by
    simp only [opsV, Option.bind_eq_some_iff] at h
    obtain ⟨st1, h1, h2⟩ := h
    obtain ⟨hd1, hd2⟩ := List.nodup_cons.1 hd
    have hil := hl i (by simp)
    refine RelU.step hG A R (id := base + room * i) (nx := st1.nx) (by omega) (fun o q1 q2 => .inr ⟨i, by simp, q1, by rw [Nat.mul_add]; omega⟩) h1 fun w' ρ' a' R' => ?_
    refine ops_sound hb0 hd2 (fun j hj => hl j (List.mem_cons_of_mem _ hj)) h2 (R'.mono (nx := st1.nx) fun o ho => ?_) hQ
    rcases ho with ho | ⟨j, hj, hb⟩
    · refine ⟨.inl ho, fun hc => ?_⟩
      have : room * (i + 1) ≤ room * ops.size := Nat.mul_le_mul_left _ hil
      rw [Nat.mul_add] at this
      omega
    · refine ⟨.inr ⟨j, List.mem_cons_of_mem _ hj, hb⟩, fun hc => ?_⟩
      have := blk_inj (j := i) ⟨hc.1, by rw [Nat.mul_add]; omega⟩ hb
      subst this
      exact hd1 hj

theorem draw_sound {id : Nat} {ops : Array Oper} {ms : List Nat} {k : List It} {F : Act → World → Prop} (hm : P.follows .mixedOrders = true) (hs : static ops ms = true) (r : DRun E ops ms 0 [] st st')
    (R : Rel G m w0 ρ0 w ρ st a) (ih : ∀ w ρ a, Rel G m w0 ρ0 w ρ { st' with nx := st.nx + room * ops.size } a → Fin P F k a w) : Fin P F (.code (.region id ops true) :: k) a w := by
  intro b cs
  have hpos : 0 < st.nx := R.up st.nx (Nat.le_refl _)
  generalize ht : w.tape w.drawn (.order b.fn id) = t
  have htopo := schedule_topo hs t
  obtain ⟨h1, h2⟩ := topo_nodup htopo
  have hw := ops_sound (P := P) (Q := onlyN (Fin P F k)) hG A hpos h1 (fun i hi => (h2 i hi).2) (r.any hs t) (R.drawn.mono (Un' := useU st.nx ops.size (Region.schedule true ops t)) (nx := st.nx) fun o ho => by
    rcases ho with ho | ⟨i, hi, hb⟩
    · unfold past; omega
    · have := hb.1; unfold past; omega) fun w ρ a R' => ih w ρ a (R'.mono (nx := st.nx + room * ops.size) fun o ho => ho)
  obtain ⟨a', w', td, hq, hst⟩ := fin_ops (ops := ops) hw b cs
  refine ⟨a', w', td, hq, ?_⟩
  have hstep := step_region_draw (P := P) (b := b) (a := a) (k := k.map item) (cs := cs) (w := w) (ops := ops) (id := id)
  rw [hm, ht] at hstep
  exact Steps.head hstep hst

/-! ### the whole run -/
def noDs (k : List It) : Bool := k.all fun
  | .dops _ _ _ _ => false
  | _ => true

omit hG A in
theorem exit_noDs : ∀ {k k' : List It} {id : Nat}, exitIt id k = some k' → noDs k = true → noDs k' = true
  | [], k', id, h, _ => by simp [exitIt] at h
  | .blk id' :: k, k', id, h, hn => by
    simp only [noDs, List.all_cons, Bool.and_eq_true] at hn
    simp only [exitIt] at h
    split at h
    · cases h; exact hn.2
    · exact exit_noDs h hn.2
  | .code c :: k, k', id, h, hn => by
    simp only [noDs, List.all_cons, Bool.and_eq_true] at hn
    exact exit_noDs (k := k) (by simpa [exitIt] using h) hn.2
  | .ops o i :: k, k', id, h, hn => by
    simp only [noDs, List.all_cons, Bool.and_eq_true] at hn
    exact exit_noDs (k := k) (by simpa [exitIt] using h) hn.2
  | .lp c :: k, k', id, h, hn => by
    simp only [noDs, List.all_cons, Bool.and_eq_true] at hn
    exact exit_noDs (k := k) (by simpa [exitIt] using h) hn.2
  | .dops _ _ _ _ :: k, k', id, h, hn => by simp [noDs] at hn

theorem step_noDs {k k' : List It} (h : step1 E k st = some (k', st')) (hn : noDs k = true) : noDs k' = true := by
  have tl : ∀ {x : It} {k : List It}, noDs (x :: k) = true → noDs k = true := fun h => by
    simp only [noDs, List.all_cons, Bool.and_eq_true] at h
    exact h.2
  unfold step1 at h
  split at h
  · cases h; exact tl hn
  · cases h; have := tl hn; simpa [noDs] using this
  · cases h; have := tl hn; simpa [noDs] using this
  · simp only [Option.bind_eq_some_iff] at h
    obtain ⟨cv, hc, h⟩ := h
    have := tl hn
    split at h <;> cases h <;> simpa [noDs] using this
  · cases h; have := tl hn; simpa [noDs] using this
  · cases h; have := tl hn; simpa [noDs] using this
  · simp only [Option.map_eq_some_iff] at h
    obtain ⟨k1, hk, h⟩ := h
    cases h
    exact exit_noDs hk (tl hn)
  · cases h; rfl
  · cases h; exact tl hn
  · simp only [Option.map_eq_some_iff] at h
    obtain ⟨st1, hst, h⟩ := h
    cases h
    have := tl hn
    simpa [noDs] using this
  · cases h; exact tl hn
  · cases h; have := tl hn; simpa [noDs] using this
  · cases h

def MotN (P : Program) (G : Ground) (m : Nat) (w0 : World) (ρ0 : Own) (Q : St → Prop) (k : List It) (st : St) : Prop := ∀ w ρ a, Rel G m w0 ρ0 w ρ st a → FinX P (PostR G m w0 ρ0 Q) k a w
def Mot (P : Program) (E : Env) (G : Ground) (m : Nat) (w0 : World) (ρ0 : Own) (Q : St → Prop) : List It → St → Prop
  | .dops ops ms i log :: k, st => noDs k = true → ∃ st', DRun E ops ms i log st st' ∧ MotN P G m w0 ρ0 Q k { st' with nx := st'.nx + room * ops.size }
  | k, st => noDs k = true → MotN P G m w0 ρ0 Q k st

theorem mot_n {Q : St → Prop} {k : List It} (h : Mot P E G m w0 ρ0 Q k st) (hn : noDs k = true) : MotN P G m w0 ρ0 Q k st := by
  cases k with
  | nil => exact h hn
  | cons x k =>
    cases x <;> first | exact h hn | simp [noDs] at hn

omit hG A in
theorem DRun.nx {ops : Array Oper} {ms : List Nat} {i : Nat} {log : Log} (r : DRun E ops ms i log st st') : st'.nx = st.nx := by
  induction r with
  | done h => rfl
  | step h r ih =>
    obtain ⟨o, b, R, W, _, _, _, _, _, hst, _⟩ := dstep_parts h
    rw [ih, stepV_nx hst]

theorem Run.sound (hm : P.follows .mixedOrders = true) {Q : St → Prop} {k : List It} (r : Run E m Q k st) : Mot P E G m w0 ρ0 Q k st := by
  have mk : ∀ {k : List It} {st : St}, (noDs k = true → MotN P G m w0 ρ0 Q k st) → noD k = true → Mot P E G m w0 ρ0 Q k st := by
    intro k st h hd
    cases k with
    | nil => exact h
    | cons x k => cases x <;> first | exact h | simp [noD] at hd
  induction r with
  | done h => exact fun _ w ρ a R => ⟨_, _, R, h⟩
  | @step k k' st st' h r ih =>
    refine mk (fun hn w ρ a R => step_sound hG A h R fun w ρ a R' => mot_n hG A ih (step_noDs hG A h hn) w ρ a R') ?_
    cases k with
    | nil => rfl
    | cons x k =>
      cases x <;> first | rfl | (simp [step1] at h)
  | forget L hk r ih =>
    refine mk (fun hn w ρ a R => ?_) hk
    obtain ⟨ρ', R'⟩ := R.forget L
    exact mot_n hG A ih hn w ρ' a R'
  | split S hk h r ih =>
    refine mk (fun hn w ρ a R => ?_) hk
    obtain ⟨st', hS, R'⟩ := h R
    exact mot_n hG A (ih st' hS) hn w ρ a R'
  | @draw id ops k st ms hs r ih =>
    refine mk (fun hn w ρ a R => ?_) rfl
    have hn' : noDs k = true := by
      simp only [noDs, List.all_cons, Bool.and_eq_true] at hn
      exact hn.2
    obtain ⟨st', hr, hk⟩ := ih hn'
    refine draw_sound hG A hm hs hr R fun w ρ a R' => finX_fin (hk w ρ a ?_)
    rw [hr.nx]
    exact R'
  | @dop ops ms i log log' k st st' h r ih =>
    intro hn
    obtain ⟨st2, h1, h2⟩ := ih hn
    exact ⟨st2, .step h h1, h2⟩
  | @dend ops ms i log k st h r ih =>
    intro hn
    exact ⟨st, .done h, mot_n hG A ih hn⟩

theorem Run.fin (hm : P.follows .mixedOrders = true) {Q : St → Prop} {c : Code} (r : Run E m Q [.code c] st) (R : Rel G m w0 ρ0 w ρ st a) : FinX P (PostR G m w0 ρ0 Q) [.code c] a w :=
  mot_n hG A (Run.sound hG A hm r) rfl w ρ a R
end
end Go.Ln
/- A nil slice may be held as an empty row of one's own. -/
set_option linter.unusedVariables false
set_option linter.unusedSimpArgs false
set_option linter.unusedSectionVars false
namespace Go.Ln
open Go
variable {G : Ground} {m : Nat} {w0 w : World} {ρ0 ρ : Own} {st st' : St} {a : Act} {rt : Store}

theorem cells_setCell {v y : V} {k : Nat} (hk : k < (cells v).length) (hy : isAggV y = false) : cells (setCellV v k y) = (cells v).set k y ∧ isAggV (setCellV v k y) = isAggV v := by
  cases v with
  | agg cs => exact ⟨rfl, rfl⟩
  | _ =>
    have h0 : k = 0 := by simp [cells] at hk; exact hk
    subst h0
    cases y <;> first | (simp [isAggV] at hy; done) | exact ⟨rfl, rfl⟩

/-- The nil slice in a slot becomes an empty row. -/
theorem Rel.slot {t k s : Nat} {v : V} (ht : st.tm[t]? = some v) (hk : (cells v)[k]? = some (.isl true [])) (R : Rel G m w0 ρ0 w ρ st a) :
    Rel G m w0 ρ0 w ρ ⟨st.tm.set t (setCellV v k (.hs st.nx 0 [] s 0 0)), upd st.rt st.nx (some ⟨0, s, []⟩), st.nx + room⟩ a := by
  have hnx : st.rt st.nx = none := R.fresh _ (Nat.le_refl _)
  have hne : ∀ {o r}, st.rt o = some r → o ≠ st.nx := fun h e => by subst e; rw [hnx] at h; cases h
  have K : Keep (fun o _ => o = st.nx) w ρ st.rt w ρ (upd st.rt st.nx (some ⟨0, s, []⟩)) := by
    refine ⟨fun b hb _ => ⟨hb, rfl⟩, fun o nv p hN hl => ⟨?_, fun b n h1 h2 => ⟨h1, h2⟩⟩, fun b l h => ⟨h, rfl⟩⟩
    have hN' : o ≠ st.nx := hN
    simpa [live, look, valid, upd, hN'] using hl
  have hKn : ∀ {v : V}, noNew (NewOf (past st.nx) st.rt) v → noNew (fun o _ => o = st.nx) v := fun h => noNew_mono (fun o nv e => by subst e; exact .inl (Nat.le_refl _)) h
  have hlt : k < (cells v).length := (List.getElem?_eq_some_iff.1 hk).1
  obtain ⟨hc1, hc2⟩ := cells_setCell (y := .hs st.nx 0 [] s 0 0) hlt rfl
  have hmono : ∀ o nv, NewOf (past (st.nx + room)) (upd st.rt st.nx (some ⟨0, s, []⟩)) o nv → NewOf (past st.nx) st.rt o nv := by
    intro o nv h
    rcases h with h | ⟨r, h1, h2⟩
    · exact .inl (Nat.le_trans (Nat.le_add_right _ _) h)
    · by_cases e : o = st.nx
      · exact .inl (by subst e; exact Nat.le_refl _)
      · exact .inr ⟨r, by simpa [upd, e] using h1, h2⟩
  have hnn : ¬ NewOf (past (st.nx + room)) (upd st.rt st.nx (some ⟨0, s, []⟩)) st.nx 0 := by
    rintro (h | ⟨r, h1, h2⟩)
    · have : st.nx + 16 ≤ st.nx := h
      omega
    · simp [upd] at h1
      subst h1
      simp at h2
  have old : ∀ (i : Nat) x u, st.tm[i]? = some x → a.tmps[i]? = some u → Slot w ρ (upd st.rt st.nx (some ⟨0, s, []⟩)) nowhere x u := fun i x u hx hu => (R.tm.2 i x u hx hu).keep K (hKn (R.tmn i x hx))
  exact
    { tm := by
        refine ⟨by simpa using R.tm.1, fun i x u hx hu => ?_⟩
        rw [List.getElem?_set] at hx
        split at hx
        · rename_i e
          split at hx
          · cases hx
            subst e
            obtain ⟨g, hg1, hg2⟩ := old t v u ht hu
            refine ⟨g, ?_, fun j x hx => ?_⟩
            · rw [hg1]
              unfold pack
              rw [hc2, hc1]
              simp
            · rw [hc1, List.getElem?_set] at hx
              split at hx
              · rename_i ej
                subst ej
                · cases hx
                  have := hg2 k _ hk
                  have hA : g k = .slice none 0 0 := by
                    generalize g k = z at this
                    cases this with
                    | isl0 _ _ A c hn => obtain ⟨rfl, rfl⟩ := hn rfl; rfl
                  rw [hA]
                  exact .hs _ _ _ _ _ _ _ _ (fun _ => ⟨0, none, rfl, Nat.le_refl _, fun h => absurd rfl h⟩) trivial
              · exact hg2 j x hx
          · cases hx
        · exact old i x u hx hu
      rok := fun o r hr => by
        by_cases e : o = st.nx
        · subst e
          simp [upd] at hr
          subst hr
          exact .inl rfl
        · have hr' : st.rt o = some r := by simpa [upd, e] using hr
          exact RowOk.under K (fun b l hb _ => ⟨hb, rfl⟩) (R.rok o r hr') (R.rtn o r hr')
      inj := R.inj
      rtn := fun o r hr => by
        by_cases e : o = st.nx
        · subst e
          simp [upd] at hr
          subst hr
          simp [nhs]
        · exact R.rtn o r (by simpa [upd, e] using hr)
      lab := ⟨fun b o l h => ⟨(R.lab.l b o l h).1, by
          rcases (R.lab.l b o l h).2 with h1 | ⟨r, h1⟩
          · exact .inl h1
          · exact .inr ⟨r, by simp [upd, hne h1, h1]⟩⟩, by have := R.up st.nx (Nat.le_refl _); simp [upd, show (0 : Nat) ≠ st.nx by omega, R.lab.z], R.lab.f⟩
      fresh := fun o ho => by
        have ho' : st.nx + room ≤ o := ho
        have : o ≠ st.nx := by simp [room] at ho'; omega
        simp only [upd, if_neg this]
        exact R.fresh o (Nat.le_trans (Nat.le_add_right _ _) ho')
      up := fun o ho => R.up o (Nat.le_trans (Nat.le_add_right _ _) ho)
      tmn := fun i x hx => by
        rw [List.getElem?_set] at hx
        split at hx
        · split at hx
          · cases hx
            have hv := noNew_mono hmono (R.tmn t v ht)
            cases v with
            | agg cs =>
              simp only [setCellV, noNew] at hv ⊢
              rw [noNews_iff] at hv ⊢
              intro z hz
              rcases List.mem_or_eq_of_mem_set hz with hz | rfl
              · exact hv z hz
              · exact hnn
            | _ => exact hnn
          · cases hx
        · exact noNew_mono hmono (R.tmn i x hx)
      wk := R.wk, fr := R.fr, k0 := R.k0, f0 := R.f0, df := R.df, gr := R.gr
      am := fun i b n h1 h2 h3 h4 => R.am i b n h1 h2 h3 (by
        have : i ≠ st.nx := fun e => R.nl i (R.le b i [] h2) (by subst e; exact Nat.le_refl _)
        simpa [upd, this] using h4)
      le := R.le
      nl := fun i hi h => R.nl i hi (Nat.le_trans (Nat.le_add_right _ _) h) }

/-- In memory of one's own: nil slices as empty rows. -/
inductive Cv : V → V → Prop
  | refl (v) : Cv v v
  | nil (s) : Cv (.isl true []) (.usl s [])
  | agg (cs cs') (hl : cs.length = cs'.length) (h : ∀ (k : Nat) x y, cs[k]? = some x → cs'[k]? = some y → Cv x y) : Cv (.agg cs) (.agg cs')
  | usl (s es es') (hl : es.length = es'.length) (h : ∀ (k : Nat) x y, es[k]? = some x → es'[k]? = some y → Cv x y) : Cv (.usl s es) (.usl s es')
theorem Cv.isAgg {v v' : V} (h : Cv v v') : isAggV v = isAggV v' := by cases h <;> rfl
theorem Cv.cells {v v' : V} (h : Cv v v') : (cells v).length = (Go.Ln.cells v').length ∧ ∀ (k : Nat) x y, (Go.Ln.cells v)[k]? = some x → (Go.Ln.cells v')[k]? = some y → Cv x y := by
  cases h with
  | refl => exact ⟨rfl, fun k x y h1 h2 => by rw [h1] at h2; cases h2; exact .refl _⟩
  | nil s => exact ⟨rfl, fun k x y h1 h2 => by cases k <;> simp [Go.Ln.cells] at h1 h2; subst h1; subst h2; exact .nil s⟩
  | agg cs cs' hl h => exact ⟨hl, h⟩
  | usl s es es' hl h => exact ⟨rfl, fun k x y h1 h2 => by cases k <;> simp [Go.Ln.cells] at h1 h2; subst h1; subst h2; exact .usl s es es' hl h⟩
theorem Cv.rep2 {v v' : V} (h : Cv v v') : (∀ {L : Loc} {u : Value}, RepV w ρ rt (some L) v u → RepV w ρ rt (some L) v' u) ∧ ∀ (k : Nat) x y, (Go.Ln.cells v)[k]? = some x → (Go.Ln.cells v')[k]? = some y → ∀ {L : Loc} {u : Value}, RepV w ρ rt (some L) x u → RepV w ρ rt (some L) y u := by
  induction h with
  | refl => exact ⟨fun h => h, fun k x y h1 h2 L u h => by rw [h1] at h2; cases h2; exact h⟩
  | nil s =>
    have key : ∀ {L : Loc} {u : Value}, RepV w ρ rt (some L) (.isl true []) u → RepV w ρ rt (some L) (.usl s []) u := by
      intro L u h
      cases h with
      | isl0 _ _ A c hn =>
        obtain ⟨rfl, rfl⟩ := hn rfl
        exact .usl0 _ _ _
    exact ⟨key, fun k x y h1 h2 L u h => by cases k <;> simp [Go.Ln.cells] at h1 h2; subst h1; subst h2; exact key h⟩
  | agg cs cs' hl hc ih => exact ⟨(fun h => by cases h), fun k x y h1 h2 => (ih k x y h1 h2).1⟩
  | usl s es es' hl hc ih =>
    have key : ∀ {L : Loc} {u : Value}, RepV w ρ rt (some L) (.usl s es) u → RepV w ρ rt (some L) (.usl s es') u := by
      intro L u h
      cases h with
      | usl0 _ _ A =>
        have : es' = [] := by cases es' <;> simp_all
        subst this
        exact .usl0 _ _ _
      | usl _ _ _ b A c arr T g h1 h2 h3 h4 h5 h6 h7 h8 =>
        have back : ∀ {i : Nat} {e' : V}, es'[i]? = some e' → ∃ e, es[i]? = some e ∧ Cv e e' := by
          intro i e' he
          have hi : i < es.length := by rw [hl]; exact (List.getElem?_eq_some_iff.1 he).1
          exact ⟨es[i], List.getElem?_eq_getElem hi, hc i _ _ (List.getElem?_eq_getElem hi) he⟩
        have backc : ∀ {i : Nat} {e' : V} {k : Nat} {y : V}, es'[i]? = some e' → (Go.Ln.cells e')[k]? = some y → ∃ e x, es[i]? = some e ∧ (Go.Ln.cells e)[k]? = some x ∧ ∀ {L : Loc} {u : Value}, RepV w ρ rt (some L) x u → RepV w ρ rt (some L) y u := by
          intro i e' k y he hy
          obtain ⟨e, he2, hcv⟩ := back he
          have hk : k < (Go.Ln.cells e).length := by rw [hcv.cells.1]; exact (List.getElem?_eq_some_iff.1 hy).1
          exact ⟨e, (Go.Ln.cells e)[k], he2, List.getElem?_eq_getElem hk, (ih i e e' he2 he).2 k _ _ (List.getElem?_eq_getElem hk) hy⟩
        rw [hl]
        refine .usl _ s es' b A c arr T g h1 h2 (by omega) h4 h5 (fun i e' he => ?_) (fun i e' k y he hy => ?_) (fun i e' k y he hy => ?_)
        · obtain ⟨e, he2, hcv⟩ := back he
          rw [← hcv.cells.1]
          exact h6 i e he2
        · obtain ⟨e, x, he2, hx, _⟩ := backc he hy
          exact h7 i e k x he2 hx
        · obtain ⟨e, x, he2, hx, hcv⟩ := backc he hy
          exact hcv (h8 i e k x he2 hx)
    exact ⟨key, fun k x y h1 h2 L u h => by cases k <;> simp [Go.Ln.cells] at h1 h2; subst h1; subst h2; exact key h⟩

/-- Rows of one's own, element by element. -/
def Cvs (es es' : List V) : Prop := es.length = es'.length ∧ ∀ (i : Nat) x y, es[i]? = some x → es'[i]? = some y → Cv x y
theorem Cvs.row {L : Loc} {s : Nat} {es es' : List V} (h : Cvs es es') (hr : RowOk w ρ rt L s es) : RowOk w ρ rt L s es' := by
  obtain ⟨hl, hc⟩ := h
  rcases hr with rfl | ⟨b, arr, T, g, h1, h2, h3, h4, h5⟩
  · left
    cases es' <;> simp_all
  · have back : ∀ {i : Nat} {e' : V}, es'[i]? = some e' → ∃ e, es[i]? = some e ∧ Cv e e' := by
      intro i e' he
      have hi : i < es.length := by rw [hl]; exact (List.getElem?_eq_some_iff.1 he).1
      exact ⟨es[i], List.getElem?_eq_getElem hi, hc i _ _ (List.getElem?_eq_getElem hi) he⟩
    refine .inr ⟨b, arr, T, g, h1, h2, fun i e' he => ?_, fun i e' k y he hy => ?_, fun i e' k y he hy => ?_⟩
    · obtain ⟨e, he2, hcv⟩ := back he
      rw [← hcv.cells.1]
      exact h3 i e he2
    · obtain ⟨e, he2, hcv⟩ := back he
      have hk : k < (cells e).length := by rw [hcv.cells.1]; exact (List.getElem?_eq_some_iff.1 hy).1
      exact h4 i e k _ he2 (List.getElem?_eq_getElem hk)
    · obtain ⟨e, he2, hcv⟩ := back he
      have hk : k < (cells e).length := by rw [hcv.cells.1]; exact (List.getElem?_eq_some_iff.1 hy).1
      exact hcv.rep2.2 k _ y (List.getElem?_eq_getElem hk) hy (h5 i e k _ he2 (List.getElem?_eq_getElem hk))
theorem Cv.nh {v v' : V} (h : Cv v v') : Go.Ln.nh v → Go.Ln.nh v' := by
  induction h with
  | refl => exact id
  | nil s => intro _; simp [Go.Ln.nh, nhs]
  | agg cs cs' hl hc ih =>
    intro hn
    simp only [Go.Ln.nh, nhs_iff] at hn ⊢
    intro y hy
    obtain ⟨k, hk, rfl⟩ := List.mem_iff_getElem.1 hy
    exact ih k _ _ (List.getElem?_eq_getElem (by omega)) (List.getElem?_eq_getElem hk) (hn _ (List.getElem_mem (by omega)))
  | usl s es es' hl hc ih =>
    intro hn
    simp only [Go.Ln.nh, nhs_iff] at hn ⊢
    intro y hy
    obtain ⟨k, hk, rfl⟩ := List.mem_iff_getElem.1 hy
    exact ih k _ _ (List.getElem?_eq_getElem (by omega)) (List.getElem?_eq_getElem hk) (hn _ (List.getElem_mem (by omega)))
theorem Cvs.nhs {es es' : List V} (h : Cvs es es') (hn : nhs es) : Go.Ln.nhs es' := by
  rw [nhs_iff] at hn ⊢
  intro y hy
  obtain ⟨k, hk, rfl⟩ := List.mem_iff_getElem.1 hy
  have h1 := h.1
  exact (h.2 k _ _ (List.getElem?_eq_getElem (by omega)) (List.getElem?_eq_getElem hk)).nh (hn _ (List.getElem_mem (by omega)))

theorem Rel.row {o : Nat} {r : Root} {es' : List V} (hr : st.rt o = some r) (hc : Cvs r.es es') (R : Rel G m w0 ρ0 w ρ st a) : Rel G m w0 ρ0 w ρ { st with rt := upd st.rt o (some ⟨r.nv + 1, r.s, es'⟩) } a := by
  have K : Keep (NewOf (past st.nx) st.rt) w ρ st.rt w ρ (upd st.rt o (some ⟨r.nv + 1, r.s, es'⟩)) := by
    refine ⟨fun b hb _ => ⟨hb, rfl⟩, fun o' nv p hN hl => ⟨?_, fun b n h1 h2 => ⟨h1, h2⟩⟩, fun b l h => ⟨h, rfl⟩⟩
    by_cases e : o' = o
    · subst e
      have hnv : ¬ r.nv < nv := fun h => hN (.inr ⟨r, hr, h⟩)
      have hp : p = [] := by
        simp only [live, look, valid, upd, if_true] at hl
        split at hl
        · rename_i hc
          simp only [Bool.or_eq_true, List.isEmpty_iff, beq_iff_eq] at hc
          rcases hc with h | h
          · exact h
          · omega
        · simp at hl
      subst hp
      simp [live, look, valid, hr, rowAt]
    · simpa [live, look, valid, upd, e] using hl
  have hiff : ∀ o', (upd st.rt o (some ⟨r.nv + 1, r.s, es'⟩)) o' = none ↔ st.rt o' = none := by
    intro o'
    by_cases e : o' = o
    · subst e; simp [upd, hr]
    · simp [upd, e]
  have hmono : ∀ o' nv, NewOf (past st.nx) (upd st.rt o (some ⟨r.nv + 1, r.s, es'⟩)) o' nv → NewOf (past st.nx) st.rt o' nv := by
    intro o' nv h
    rcases h with h | ⟨r', h1, h2⟩
    · exact .inl h
    · by_cases e : o' = o
      · subst e
        simp [upd] at h1
        subst h1
        exact .inr ⟨r, hr, by simp at h2; omega⟩
      · exact .inr ⟨r', by simpa [upd, e] using h1, h2⟩
  exact
    { tm := ⟨R.tm.1, fun i v u hv hu => (R.tm.2 i v u hv hu).keep K (R.tmn i v hv)⟩
      rok := fun o' r' hr' => by
        by_cases e : o' = o
        · subst e
          simp [upd] at hr'
          subst hr'
          exact hc.row (RowOk.under K (fun b l hb _ => ⟨hb, rfl⟩) (R.rok o' r hr) (R.rtn o' r hr))
        · have hr2 : st.rt o' = some r' := by simpa [upd, e] using hr'
          exact RowOk.under K (fun b l hb _ => ⟨hb, rfl⟩) (R.rok o' r' hr2) (R.rtn o' r' hr2)
      inj := R.inj
      rtn := fun o' r' hr' => by
        by_cases e : o' = o
        · subst e
          simp [upd] at hr'
          subst hr'
          exact hc.nhs (R.rtn o' r hr)
        · exact R.rtn o' r' (by simpa [upd, e] using hr')
      lab := ⟨fun b o' l h => ⟨(R.lab.l b o' l h).1, by
          rcases (R.lab.l b o' l h).2 with h1 | ⟨r', h1⟩
          · exact .inl h1
          · right
            by_cases e : o' = o
            · subst e; exact ⟨⟨r.nv + 1, r.s, es'⟩, by simp [upd]⟩
            · exact ⟨r', by simp [upd, e, h1]⟩⟩, (hiff 0).2 R.lab.z, R.lab.f⟩
      fresh := fun o' ho => (hiff o').2 (R.fresh o' ho)
      up := R.up
      tmn := fun i v hv => noNew_mono hmono (R.tmn i v hv)
      wk := R.wk, fr := R.fr, k0 := R.k0, f0 := R.f0, df := R.df, gr := R.gr
      am := fun i b n h1 h2 h3 h4 => R.am i b n h1 h2 h3 (by
        cases e : st.rt i with
        | some _ => rfl
        | none => (have h5 : (upd st.rt o (some ⟨r.nv + 1, r.s, es'⟩) i).isSome = true := h4; rw [(hiff i).2 e] at h5; simp at h5))
      le := R.le
      nl := R.nl }

theorem Run.slot {E : Env} {Q : St → Prop} {k : List It} {t j s : Nat} {v : V} (hk : noD k = true) (ht : st.tm[t]? = some v) (hj : (cells v)[j]? = some (.isl true []))
    (r : Run E m Q k ⟨st.tm.set t (setCellV v j (.hs st.nx 0 [] s 0 0)), upd st.rt st.nx (some ⟨0, s, []⟩), st.nx + room⟩) : Run E m Q k st :=
  .split (fun x => x = _) hk (fun R => ⟨_, rfl, Rel.slot ht hj R⟩) fun _ h => h ▸ r
theorem Run.row {E : Env} {Q : St → Prop} {k : List It} {o : Nat} {r : Root} {es' : List V} (hk : noD k = true) (hr : st.rt o = some r) (hc : Cvs r.es es') (rr : Run E m Q k { st with rt := upd st.rt o (some ⟨r.nv + 1, r.s, es'⟩) }) : Run E m Q k st :=
  .split (fun x => x = _) hk (fun R => ⟨_, rfl, Rel.row hr hc R⟩) fun _ h => h ▸ rr
end Go.Ln
/- A function's contract out of a run of the interpreter, put together. -/
set_option linter.unusedVariables false
set_option linter.unusedSimpArgs false
set_option linter.unusedSectionVars false
namespace Go.Ln
open Go

theorem good_of_run {P : Program} {E : Env} {G : Ground} (hG : ∀ f e, E.fn f = some e → Good P G f e) (A : Agree P E) (hm : P.follows .mixedOrders = true) {f : FuncId} {fn : Func} {c : Code} (hf : P.funcs[f]? = some fn) {n : Nat} (F : Fits fn c n)
    {own : List Bool} {Fv : List V → Option (V × List V)}
    (h : ∀ vs r os, Fv vs = some (r, os) → vs.length = n ∧ Run E (ownN vs) (fun st => finish E fn own (enter fn vs).1 st = some (r, os)) [.code c] (enter fn vs).2) : Good P G f ⟨own, Fv⟩ := by
  intro w ρ vs us r os ha hi hg hF
  obtain ⟨hn, hr⟩ := h vs r os hF
  refine .inr ⟨run_enter hf F _ w, fun cs => ?_⟩
  have R := enter_rel (P := P) ha hi hg (fn := fn) (by rw [hn]; exact F.args)
  have hx := finX_fin (hr.fin hG A hm R)
  let b : Frame := { (default : Frame) with fn := f, kind := .normal }
  have henter : Frame.enter P f us.toArray .normal =
      b.at { tmps := us.toArray ++ Array.replicate (fn.ntmps - us.toArray.size) undef, defers := [] } ([It.code c].map item) := by
    simp [Frame.enter, Frame.at, hf, F.body, b, item]
  obtain ⟨a', w', td, ⟨ρ', st, R', hQ⟩, hs⟩ := hx b cs
  rw [← henter] at hs
  obtain ⟨u, hrun, ρe, h1, h2, h3⟩ := leave_rel A ha hi R' hQ
  exact ⟨.returned u, w', _, ⟨u, rfl, ρe, h1, h2, h3⟩, hs, rfl, rfl, R'.df, rfl, fn, hf, hrun⟩

/-- A function by value, not everywhere told, that is good wherever another one is. -/
theorem Good.weaken {P : Program} {G : Ground} {f : FuncId} {own : List Bool} {F F' : List V → Option (V × List V)} (h : Good P G f ⟨own, F⟩) (hF : ∀ vs x, F' vs = some x → F vs = some x) : Good P G f ⟨own, F'⟩ :=
  fun w ρ vs us r outs h1 h2 h3 h4 => h w ρ vs us r outs h1 h2 h3 (hF vs _ h4)
/-- By levels: each level is good if all lower ones are. -/
theorem Good.levels {P : Program} {G : Ground} {f : FuncId} {own : List Bool} {F : Nat → List V → Option (V × List V)} {F' : List V → Option (V × List V)} (h : ∀ n, Good P G f ⟨own, F n⟩) (hF : ∀ vs x, F' vs = some x → ∃ n, F n vs = some x) : Good P G f ⟨own, F'⟩ :=
  fun w ρ vs us r outs h1 h2 h3 h4 => let ⟨n, h5⟩ := hF vs _ h4; h n w ρ vs us r outs h1 h2 h3 h5
end Go.Ln
