/-
  A step by step reading of the printed code by values, proved sound once (part 3): no statement of the seat stands here.
-/
import Derived.Test.YtgcnameabpnpaaaDoorLnB
import Derived.Laws.AppendOwn
/- The elements of a part of an own row are let go. -/
set_option linter.unusedVariables false
set_option linter.unusedSimpArgs false
set_option linter.unusedSectionVars false
namespace Go.Ln
open Go
variable {w w' : World} {ρ ρ' ρ'' : Own} {rt rt' rt'' : Store} {N : Nat → Nat → Prop}

theorem flat_row {es : List V} {s : Nat} {nv : Nat} {p : List (Nat × Nat)} (hf : es.all flatE = true) (h : (rowAt p s es).isSome = true) : p = [] := by
  match p, h with
  | [], _ => rfl
  | (i, k) :: p, h =>
    exfalso
    simp only [rowAt] at h
    cases he : es[i]? with
    | none => simp [he] at h
    | some e =>
      simp only [he] at h
      have h1 := List.all_eq_true.1 hf e (List.mem_of_getElem? he)
      cases hc : (cells e)[k]? with
      | none => simp [hc] at h
      | some x =>
        have h2 := List.all_eq_true.1 (show (cells e).all plainV = true from h1) x (List.mem_of_getElem? hc)
        cases x <;> simp [hc] at h <;> simp [plainV] at h2

/-- A flat row's cells, at other labels and in another store. -/
theorem plainRep {L L' : Option Loc} {v : V} {u : Value} (K : Keep N w ρ rt w' ρ' rt') (h : RepV w ρ rt L v u) (hp : plainV v = true) (hn : nh v) : RepV w' ρ' rt' L' v u := by
  have hno : Ln.notOwn v := by cases v <;> first | trivial | (simp [plainV] at hp)
  exact ((h.any (L' := none) hno).keep K (nh_noNew hn)).anyN

section
variable {P : Program} {E : Env} (A : Agree P E) {st : St} {a : Act} {o : Oper} (H : RtOk w ρ st.rt) (J : Inj ρ) (T : TmOk w ρ st.rt st.tm a.tmps) (hr : RtN st.rt) (hL : Lab w ρ st.rt noU) {Un : Nat → Prop} {id : Nat} (hm : TmN (NewOf Un st.rt) st.tm) (hi : Fresh Un st.rt id)
include A H J T hr hL hm hi

theorem n_clear {x : Operand} {xv : V} {t : TypeId} {ts : Array TypeId} {rt' : Store} (ho : o.op = .call { callee := .builtin .clear, args := #[x], argTypes := ts }) (ht : ts[0]? = some t) (hx : ev st x = some xv) (h : clearV E st.rt t xv = some rt') :
    ∃ u w', (execOp a.eval o).run P w = .ok (.value u) w' ∧ Out Un w ρ st.rt id (.tup []) rt' u w' := by
  have tup0 : ∀ {w' : World} {ρ' : Own} {rt' : Store}, Slot w' ρ' rt' nowhere (.tup []) (.tuple #[]) := fun {w' ρ' rt'} => Slot.mk1 rfl (.tup none [] (fun _ => undef) (fun _ _ => undef) (fun c v h => by simp at h) (fun c v k x h => by simp at h))
  have hxr := ev_rep T hx
  unfold clearV at h
  split at h
  · split at h
    · rename_i hs
      cases h
      obtain ⟨e, he⟩ : ∃ e, E.desc t = some (.slice e) := by
        unfold isSliceD at hs
        split at hs
        · rename_i e he; exact ⟨e, he⟩
        · cases hs
      have hu := A.desc he
      obtain ⟨A1, l, c, hev, _⟩ := isl_shape (Slot.one rfl hxr)
      have hl : l = 0 := by
        have := Slot.one rfl hxr
        rw [hev] at this
        cases this <;> first | rfl | (rename_i h0 _ _ _ _ _; simp at h0)
      subst hl
      refine ⟨.tuple #[], w, ?_, ρ, ⟨H, J, hr, Keep.refl, hL, Wk.refl, fun o r h => .inl ⟨r, h, Nat.le_refl _⟩, fun _ _ h => h⟩, tup0, by simp [noNew, noNews]⟩
      cases A1 <;> simp [execOp, ho, resolve, invoke, builtin, Builtin.clear_, ht, hev, run_underlying hu]
    · cases h
  · rename_i o1 nv s off len
    split at h
    · rename_i e sz bt zv htt
      simp only [Option.bind_eq_some_iff] at h
      obtain ⟨ei, hei, z, hz, r, hro, h⟩ := h
      split at h
      · rename_i hc
        obtain ⟨⟨rfl, c2, c3, c4⟩, c5⟩ := hc
        simp only [Bool.and_eq_true] at c5
        cases h
        have hu := A.und t _ htt
        simp only at hu
        have hp := Slot.one rfl hxr
        have hlive : live st.rt o1 nv [] := by simp [live, look, valid, hro, rowAt]
        obtain ⟨c, AA, hev, hlc, hcc⟩ : ∃ c AA, a.eval x = .slice AA len c ∧ len ≤ c ∧ (c ≠ 0 → ∃ b n, ρ b = some (o1, []) ∧ Blk w b n ∧ AA = some ⟨b, off * r.s, none⟩ ∧ (off + c) * r.s ≤ n) := by
          generalize a.eval x = up at hp
          cases hp with
          | hs _ _ _ _ _ _ _ _ hh _ => exact hh hlive
        generalize hes : r.es.take off ++ List.replicate len z ++ r.es.drop (off + len) = es'
        by_cases hlen : len = 0
        · subst hlen
          have hee : es' = r.es := by rw [← hes]; simp
          subst hee
          have hst : upd st.rt o1 (some ⟨r.nv, r.s, r.es⟩) = st.rt := by
            funext y
            by_cases hy : y = o1
            · subst hy; simp [upd, hro]
            · simp [upd, hy]
          rw [hst]
          refine ⟨.tuple #[], w, ?_, ρ, ⟨H, J, hr, Keep.refl, hL, Wk.refl, fun o r h => .inl ⟨r, h, Nat.le_refl _⟩, fun _ _ h => h⟩, tup0, by simp [noNew, noNews]⟩
          cases AA <;> simp [execOp, ho, resolve, invoke, builtin, Builtin.clear_, ht, hev, run_underlying hu]
        obtain ⟨b, n, hb, ⟨arr, TT, hbb, hsz⟩, rfl, hfit⟩ := hcc (by omega)
        obtain ⟨g, hg1, hg2, hg3⟩ : ∃ g : Nat → Nat → Value, (∀ (i : Nat) (e : V), r.es[i]? = some e → (cells e).length = r.s) ∧ (∀ (i : Nat) (e : V) k x, r.es[i]? = some e → (cells e)[k]? = some x → arr[i * r.s + k]? = some (g i k)) ∧
            (∀ (i : Nat) (e : V) k x, r.es[i]? = some e → (cells e)[k]? = some x → RepV w ρ st.rt (some (o1, [(i, k)])) x (g i k)) := by
          rcases H o1 r hro with h0 | ⟨b', arr', T', g, h1, h2, h3, h4, h5⟩
          · rw [h0] at c2; simp at c2; omega
          · have := J b b' _ hb h1
            subst this
            rw [hbb] at h2
            cases h2
            exact ⟨g, h3, h4, h5⟩
        have hzs := slot_cs (zeroV_rep (w := w) (ρ := ρ) (rt := st.rt) hz nowhere) (zeroV_cell hz)
        have hzc : ei.zv.cells.size = r.s := by rw [← hzs.1]; exact c3
        have hzcells : Builtin.zeroCells ei.zv.cells len = madeCells ei.zv.cells (len * r.s) := by simp [Builtin.zeroCells, madeCells, hzc]
        have hnsz : (Builtin.zeroCells ei.zv.cells len).toList.length = len * r.s := by rw [hzcells]; simp [size_madeCells]
        have hone : ∀ u ∈ (Builtin.zeroCells ei.zv.cells len).toList, u.oneCell' = true := by
          intro u hu'
          obtain ⟨j, hj⟩ := List.mem_iff_getElem?.1 hu'
          have hjl := (List.getElem?_eq_some_iff.1 hj).1
          rw [hnsz] at hjl
          have hd : j / r.s < len := Nat.div_lt_of_lt_mul (by rw [Nat.mul_comm]; exact hjl)
          have hm' : j % r.s < r.s := Nat.mod_lt _ c4
          have hdm : j / r.s * r.s + j % r.s = j := by rw [Nat.mul_comm]; exact Nat.div_add_mod j r.s
          have h2 := zeros_get (n := len) hzc hd hm'
          rw [hdm, ← hzcells] at h2
          simp only [Array.getElem?_toList] at hj
          rw [hj] at h2
          have hcz : (cells z)[j % r.s]? = some ((cells z)[j % r.s]'(by omega)) := List.getElem?_eq_getElem _
          have hr2 := hzs.2 _ _ _ hcz h2.symm
          have := rep_one hr2 (List.all_eq_true.1 (zeroV_cell hz) _ (List.mem_of_getElem? hcz))
          cases u <;> first | rfl | exact this.elim
        have hle : (off + len) * r.s ≤ arr.size := by
          have : (off + len) * r.s ≤ (off + c) * r.s := Nat.mul_le_mul_right _ (by omega)
          omega
        have hadd : (off + len) * r.s = off * r.s + len * r.s := Nat.add_mul ..
        have hrun := run_storeCells_at P b (off * r.s) TT (Builtin.zeroCells ei.zv.cells len).toList 0 arr w hbb (by rw [hnsz]; omega) hone
        simp only [Nat.add_zero, hnsz] at hrun
        generalize harr' : (arr.toList.take (off * r.s) ++ (Builtin.zeroCells ei.zv.cells len).toList ++ arr.toList.drop (off * r.s + len * r.s)).toArray = arr' at hrun
        have hget' : ∀ j, arr'[j]? = if off * r.s ≤ j ∧ j < off * r.s + len * r.s then (Builtin.zeroCells ei.zv.cells len)[j - off * r.s]? else arr[j]? := fun j => by
          rw [← harr', List.getElem?_toArray, seg_get' (n := len * r.s) hnsz (by simp; omega)]
          simp
        have hsz' : arr'.size = arr.size := by
          rw [← harr']
          have := hnsz
          simp only [List.size_toArray, List.length_append, List.length_take, List.length_drop, this, Array.length_toList]
          omega
        have hw1 := setRow_heap w b arr arr' TT (0, 0) hbb
        have hw2 : ∀ c, c ≠ b → (w.setRow b arr').heap[c]? = w.heap[c]? := fun c hc => setRow_other w b c arr' hc
        have hlen' : es'.length = r.es.length := by rw [← hes]; simp; omega
        have hesg : ∀ i : Nat, es'[i]? = if off ≤ i ∧ i < off + len then some z else r.es[i]? := fun i => by
          have := seg_get (xs := r.es) (ys := List.replicate len z) (k := off) (n := len) (k' := i) (by simp) c2
          rw [← hes, this]
          split
          · rw [List.getElem?_replicate, if_pos (by omega)]
          · rfl
        have hflat' : es'.all flatE = true := by
          refine List.all_eq_true.2 fun y hy => ?_
          obtain ⟨i, hi'⟩ := List.mem_iff_getElem?.1 hy
          rw [hesg] at hi'
          split at hi'
          · cases hi'; exact c5.2
          · exact List.all_eq_true.1 c5.1 y (List.mem_of_getElem? hi')
        have blk : ∀ c n, Blk w c n → Blk (w.setRow b arr') c n := by
          intro c n hcb
          by_cases hcb2 : c = b
          · subst hcb2
            obtain ⟨arr2, T2, q1, q2⟩ := hcb
            rw [hbb] at q1
            cases q1
            exact ⟨arr', _, hw1, by rw [hsz', q2]⟩
          · obtain ⟨arr2, T2, q1, q2⟩ := hcb
            exact ⟨arr2, T2, by rw [hw2 c hcb2]; exact q1, q2⟩
        have hneb : ∀ c L, ρ c = some L → L ≠ (o1, []) → c ≠ b := by
          rintro c L h1 h2 rfl
          rw [hb] at h1
          cases h1
          exact h2 rfl
        have K : Keep (NewOf Un st.rt) w ρ st.rt (w.setRow b arr') ρ (upd st.rt o1 (some ⟨r.nv, r.s, es'⟩)) := by
          refine ⟨fun c hc _ => ⟨hc, hw2 c (by rintro rfl; rw [hb] at hc; cases hc)⟩, fun o' nv2 p' hN hl => ⟨?_, fun c n h1 h2 => ⟨h1, blk c n h2⟩⟩, fun c l hc => ⟨hc, hw2 c (hneb c _ hc (by rintro h; cases h; rw [hL.z] at hro; cases hro))⟩⟩
          by_cases ho' : o' = o1
          · subst ho'
            unfold live look at hl
            cases hvv' : valid (upd st.rt o' (some ⟨r.nv, r.s, es'⟩)) o' nv2 p' with
            | none => simp [hvv'] at hl
            | some r2 =>
              obtain ⟨h1, h2⟩ := valid_some hvv'
              simp [upd] at h1
              subst h1
              simp only [hvv', Option.bind_some] at hl
              have := flat_row (nv := 0) hflat' hl
              subst this
              simp [live, look, valid, hro, rowAt]
          · simpa [live, look, valid, upd, ho'] using hl
        have hzn : nh z := zeroV_nh hz
        refine ⟨.tuple #[], w.setRow b arr', ?_, ρ, ⟨?_, J, ?_, K, ?_, ⟨rfl, rfl, rfl, by simp, blk⟩, ?_, fun _ _ h => h⟩, tup0, by simp [noNew, noNews]⟩
        · obtain ⟨m, rfl⟩ : ∃ m, len = m + 1 := ⟨len - 1, by omega⟩
          simp [execOp, ho, resolve, invoke, builtin, Builtin.clear_, ht, hev, run_underlying hu, run_zeroValue' A hei, hrun]
        · intro o' r' hr'
          by_cases ho' : o' = o1
          · subst ho'
            simp [upd] at hr'
            subst hr'
            refine rowOk_upd (s := r.s) (H o' r hro) hlen' (fun i e he => ?_) fun b2 arr2 T2 hb2 hh2 => ?_
            · rw [hesg] at he
              split at he
              · cases he; exact c3
              · exact hg1 i e he
            · have := J b b2 _ hb hb2
              subst this
              rw [hbb] at hh2
              cases hh2
              refine ⟨arr', hb, hw1, fun i e k y he hy => ?_⟩
              have hk := (List.getElem?_eq_some_iff.1 hy).1
              rw [hesg] at he
              split at he
              · rename_i hin
                cases he
                rw [c3] at hk
                have hlt : i * r.s + k < off * r.s + len * r.s := by
                  have : (i + 1) * r.s ≤ (off + len) * r.s := Nat.mul_le_mul_right _ (by omega)
                  rw [Nat.succ_mul, hadd] at this
                  omega
                have hge : off * r.s ≤ i * r.s := Nat.mul_le_mul_right _ hin.1
                have hsub : i * r.s + k - off * r.s = (i - off) * r.s + k := by rw [Nat.sub_mul]; omega
                have hzz := slot_g (zeroV_rep (w := w) (ρ := ρ) (rt := st.rt) hz nowhere) (zeroV_cell hz) hy
                refine ⟨_, by rw [hget', if_pos ⟨by omega, hlt⟩, hsub, hzcells, zeros_get hzc (by omega) hk]; exact hzz.1, ?_⟩
                exact plainRep K hzz.2 (List.all_eq_true.1 (show (cells z).all plainV = true from c5.2) _ (List.mem_of_getElem? hy)) (nh_cell hzn hy)
              · rename_i hin
                have hks := hk
                rw [hg1 i e he] at hks
                refine ⟨g i k, ?_, ?_⟩
                · rw [hget', if_neg]
                  · exact hg2 i e k y he hy
                  · rintro ⟨q1, q2⟩
                    rcases Nat.lt_or_ge i off with h1 | h1
                    · have : (i + 1) * r.s ≤ off * r.s := Nat.mul_le_mul_right _ h1
                      rw [Nat.succ_mul] at this
                      omega
                    · have : (off + len) * r.s ≤ i * r.s := Nat.mul_le_mul_right _ (by omega)
                      omega
                · exact plainRep K (hg3 i e k y he hy) (List.all_eq_true.1 (show (cells e).all plainV = true from List.all_eq_true.1 c5.1 e (List.mem_of_getElem? he)) _ (List.mem_of_getElem? hy)) (nh_cell (nhs_get (hr o' r hro) he) hy)
          · simp [upd, ho'] at hr'
            exact RowOk.under K (fun c l hc _ => ⟨hc, hw2 c (hneb c _ hc (by rintro h; cases h; exact ho' rfl))⟩) (H o' r' hr') (hr o' r' hr')
        · intro o' r' hr'
          by_cases ho' : o' = o1
          · subst ho'
            simp [upd] at hr'
            subst hr'
            refine nhs_iff.2 fun y hy => ?_
            obtain ⟨i, hi'⟩ := List.mem_iff_getElem?.1 hy
            rw [hesg] at hi'
            split at hi'
            · cases hi'; exact hzn
            · exact nhs_get (hr o' r hro) hi'
          · simp [upd, ho'] at hr'
            exact hr o' r' hr'
        · refine ⟨fun c o' l hc => ⟨by simpa using (hL c o' l hc).1, ?_⟩, ?_, hL.f⟩
          · rcases (hL c o' l hc).2 with h1 | ⟨r1, h1⟩
            · exact .inl h1
            · refine .inr ?_
              by_cases ho' : o' = o1
              · subst ho'; exact ⟨_, by simp [upd]; rfl⟩
              · exact ⟨r1, by simpa [upd, ho'] using h1⟩
          · have : (0 : Nat) ≠ o1 := by rintro rfl; rw [hL.z] at hro; cases hro
            simp [upd, this, hL.z]
        · intro o' r' hr'
          by_cases ho' : o' = o1
          · subst ho'
            simp [upd] at hr'
            subst hr'
            exact .inl ⟨r, hro, Nat.le_refl _⟩
          · simp [upd, ho'] at hr'
            exact .inl ⟨r', hr', Nat.le_refl _⟩
      · cases h
    · cases h
  · cases h
end
end Go.Ln
/- Appending to a row of the call's own. -/
set_option linter.unusedVariables false
set_option linter.unusedSimpArgs false
set_option linter.unusedSectionVars false
namespace Go.Ln
open Go
variable {w w' : World} {ρ ρ' ρ'' : Own} {rt rt' rt'' : Store} {N : Nat → Nat → Prop}

def killOwn (ρ : Own) (o : Nat) : Own := fun b =>
  match ρ b with
  | some (o', l) => if o' = o then none else some (o', l)
  | none => none
theorem killOwn_none {o b} (h : ρ b = none) : killOwn ρ o b = none := by simp [killOwn, h]
theorem killOwn_same {o b l} (h : ρ b = some (o, l)) : killOwn ρ o b = none := by simp [killOwn, h]
theorem killOwn_other {o b o' l} (h : ρ b = some (o', l)) (hn : o' ≠ o) : killOwn ρ o b = some (o', l) := by simp [killOwn, h, hn]
theorem killOwn_inv {o b o' l} (h : killOwn ρ o b = some (o', l)) : ρ b = some (o', l) ∧ o' ≠ o := by
  unfold killOwn at h
  split at h
  · split at h
    · cases h
    · rename_i hn
      cases h
      exact ⟨by assumption, hn⟩
  · cases h

theorem kill_abs (H : RtOk w ρ rt) (J : Inj ρ) (hr : RtN rt) {U : Pl} (hL : Lab w ρ rt U) {o : Nat} {r : Root} (ho : rt o = some r) : Abs N w ρ rt (killOwn ρ o) (upd rt o none) U := by
  have ho0 : 0 ≠ o := by rintro rfl; rw [hL.z] at ho; cases ho
  have K : Keep N w ρ rt w (killOwn ρ o) (upd rt o none) := ⟨fun b hb _ => ⟨killOwn_none hb, rfl⟩, fun o' nv p _ hl => by
    have hne : o' ≠ o := by
      rintro rfl
      simp [live, look, valid, upd] at hl
    exact ⟨by simpa [live, look, valid, upd, hne] using hl, fun b n hb hn => ⟨killOwn_other hb hne, hn⟩⟩, fun b l hb => ⟨killOwn_other hb ho0, rfl⟩⟩
  refine ⟨?_, ?_, ?_, K, ?_, ?_, ?_, fun b l h => (killOwn_inv h).1⟩
  · intro o' r' h'
    by_cases hne : o' = o
    · simp [upd, hne] at h'
    · simp [upd, hne] at h'
      exact RowOk.under K (fun b l hb _ => ⟨killOwn_other hb hne, rfl⟩) (H o' r' h') (hr o' r' h')
  · intro b b' L h h'
    exact J _ _ _ (killOwn_inv h).1 (killOwn_inv h').1
  · intro o' r' h'
    by_cases hne : o' = o
    · simp [upd, hne] at h'
    · simp [upd, hne] at h'
      exact hr o' r' h'
  · intro q d v u hq h hn
    have hne : q ≠ o := by rintro rfl; rw [ho] at hq; cases hq
    exact RepV.under K (fun b l hb _ => ⟨killOwn_other hb hne, rfl⟩) h hn
  · refine ⟨fun b o' l h => ?_, by simp [upd, ho0, hL.z], fun b l h => hL.f _ _ (killOwn_inv h).1⟩
    obtain ⟨h1, h2⟩ := killOwn_inv h
    have := hL _ _ _ h1
    exact ⟨this.1, this.2.imp id fun ⟨r, hr⟩ => ⟨r, by simp [upd, h2, hr]⟩⟩
  · intro o' r' h'
    by_cases hne : o' = o
    · simp [upd, hne] at h'
    · simp [upd, hne] at h'
      exact ⟨r', h', rfl, rfl, rfl⟩

/-- The cells that are appended. -/
structure Src (w : World) (ρ : Own) (rt : Store) (size : Nat) (es : List V) (u : Value) (g : Nat → Nat → Value) : Prop where
  shape : ∃ A c, u = .slice A es.length c ∧ (es ≠ [] → ∃ b off, A = some ⟨b, off, none⟩ ∧ ∀ (i : Nat) (e : V) k x, es[i]? = some e → (cells e)[k]? = some x → w.cell? ⟨b, off + (i * size + k), none⟩ = some (g i k))
  rep : ∀ (i : Nat) (e : V) k x, es[i]? = some e → (cells e)[k]? = some x → RepV w ρ rt none x (g i k)

theorem takeEls_ok (H : RtOk w ρ rt) (J : Inj ρ) (hr : RtN rt) (hL : Lab w ρ rt noU) {x : V} {u : Value} {es : List V} {size : Nat} (hx : RepV w ρ rt none x u) (hn : noNew N x) (h : takeEls rt x = some (es, rt'))
    (hs : ∀ e ∈ es, (cells e).length = size) (h0 : 0 < size) : ∃ ρ' g, Abs N w ρ rt ρ' rt' noU ∧ nhs es ∧ Src w ρ' rt' size es u g := by
  unfold takeEls at h
  split at h
  · rename_i nl es'
    cases h
    have hne : nhs es := by simpa [noNew] using hn
    cases hx with
    | isl0 _ _ A c hn => exact ⟨ρ, fun _ _ => undef, Abs.refl H J hr hL, by simp [nhs], ⟨A, c, rfl, by simp⟩, by simp⟩
    | isl _ _ b off c s g hl hp hρ hb hs' hc hh =>
      obtain ⟨e0, he0⟩ : ∃ e, es[0]? = some e := ⟨_, List.getElem?_eq_getElem hp⟩
      have : s = size := by rw [← hs' 0 e0 he0]; exact hs e0 (List.mem_of_getElem? he0)
      subst this
      exact ⟨ρ, g, Abs.refl H J hr hL, hne, ⟨some ⟨b, off, none⟩, c, rfl, fun _ => ⟨b, off, rfl, hc⟩⟩, hh⟩
  · rename_i o nv p s off len
    simp only [Option.bind_eq_some_iff] at h
    obtain ⟨⟨s1, row⟩, hl, h⟩ := h
    simp only at h
    split at h
    · rename_i hc
      split at h
      · cases h
      · rename_i hs1
        have hs1 : s = s1 := Classical.byContradiction hs1
        subst hs1
        have hrn := look_nh hr hl
        have hrow := look_rep H hl
        have hlive : live rt o nv p := by simp [live, hl]
        have hget : ∀ (i : Nat) (e : V), ((row.drop off).take len)[i]? = some e → row[off + i]? = some e := fun i e he => by
          rw [List.getElem?_take] at he
          split at he
          · rwa [List.getElem?_drop] at he
          · cases he
        have hlen : ((row.drop off).take len).length = len := by simp; omega
        obtain ⟨c, A, rfl, hlc, hcc⟩ : ∃ c A, u = .slice A len c ∧ len ≤ c ∧ (c ≠ 0 → ∃ b n, ρ b = some (o, p) ∧ Blk w b n ∧ A = some ⟨b, off * s, none⟩ ∧ (off + c) * s ≤ n) := by
          cases hx with
          | hs _ _ _ _ _ _ _ _ hh h1 => exact hh hlive
        split at h
        · rename_i hfl
          cases h
          have hnn : nhs ((row.drop off).take len) := nhs_iff.2 fun x hx => nhs_iff.1 hrn x (List.mem_of_mem_drop (List.mem_of_mem_take hx))
          rcases hrow with rfl | ⟨b, arr, T, g, h1, h2, h3, h4, h5⟩
          · refine ⟨ρ, fun _ _ => undef, Abs.refl H J hr hL, hnn, ⟨A, c, ?_, by simp⟩, by simp⟩
            rw [hlen]
          · refine ⟨ρ, fun i k => g (off + i) k, Abs.refl H J hr hL, hnn, ⟨A, c, by rw [hlen], fun hne => ?_⟩, ?_⟩
            · obtain ⟨b', n, hb, _, rfl, _⟩ := hcc (by
                intro h0
                have : len = 0 := by omega
                subst this
                exact hne (by simp))
              have := J _ _ _ h1 hb
              subst this
              refine ⟨b, off * s, rfl, fun i e k x he hx => ?_⟩
              have := h4 _ e k x (hget i e he) hx
              have hes := hs e (List.mem_of_getElem? he)
              rw [h3 _ e (hget i e he)] at hes
              subst hes
              simp only [World.cell?, h2]
              rw [← Nat.add_assoc, ← Nat.add_mul]
              exact this
            · intro i e k x he hx
              have hp : plainV x = true := List.all_eq_true.1 (by simpa [flatE] using List.all_eq_true.1 hfl e (List.mem_of_getElem? he)) x (List.mem_of_getElem? hx)
              exact (h5 _ e k x (hget i e he) hx).any (by cases x <;> first | trivial | exact absurd hp (by simp [plainV]))
        · split at h
          · rename_i hcond
            cases h
            obtain ⟨hp, h0', hll⟩ := hcond
            have hp' : p = [] := by simpa using hp
            subst hp'
            subst h0'
            have hvo : ∃ r, rt o = some r := by
              unfold look at hl
              simp only [Option.bind_eq_some_iff] at hl
              obtain ⟨r, hr', _⟩ := hl
              exact ⟨r, (valid_some hr').1⟩
            obtain ⟨r, ho⟩ := hvo
            have ab := kill_abs (N := N) H J hr hL ho
            simp only [List.drop_zero, hll, List.take_length] at hs hget hlen ⊢
            have hfz := hrow.freeze ab.keep (fun b l hb _ => ⟨killOwn_same hb, (hL _ _ _ hb).1, rfl⟩) hrn
            refine ⟨killOwn ρ o, ?_⟩
            rcases hfz with rfl | ⟨b, g, f0, f1, f2, f3, f4, f5⟩
            · exact ⟨fun _ _ => undef, ab, by simp [imms, nhs], ⟨A, c, by simp [imms], by simp [imms]⟩, by simp [imms]⟩
            · refine ⟨g, ab, imms_nh hrn, ⟨A, c, by rw [imms_len], fun hne => ?_⟩, f5⟩
              obtain ⟨b', n, hb, _, rfl, _⟩ := hcc (by
                intro h0
                have : row = [] := List.length_eq_zero_iff.1 (by omega)
                subst this
                exact hne (by simp [imms]))
              have := J _ _ _ f0 hb
              subst this
              refine ⟨b, 0 * s, rfl, fun i e k x he hx => ?_⟩
              have hes := hs e (List.mem_of_getElem? he)
              rw [f3 _ e he] at hes
              subst hes
              rw [Nat.zero_mul, Nat.zero_add]
              exact f4 i e k x he hx
          · cases h
    · cases h
  · cases h

/-- The cells in a row, one after the other. -/
def news (n size : Nat) (g : Nat → Nat → Value) : List Value := (List.range (n * size)).map fun j => g (j / size) (j % size)
theorem news_len {n size : Nat} {g : Nat → Nat → Value} : (news n size g).length = n * size := by simp [news]
theorem news_at {n size i k : Nat} {g : Nat → Nat → Value} (hi : i < n) (hk : k < size) : (news n size g)[i * size + k]? = some (g i k) := by
  have hlt : i * size + k < n * size := by
    have : (i + 1) * size ≤ n * size := Nat.mul_le_mul_right _ hi
    rw [Nat.succ_mul] at this
    omega
  have h1 : (i * size + k) / size = i := by rw [Nat.mul_comm, Nat.mul_add_div (by omega), Nat.div_eq_of_lt hk, Nat.add_zero]
  have h2 : (i * size + k) % size = k := by rw [Nat.mul_comm, Nat.mul_add_mod, Nat.mod_eq_of_lt hk]
  simp [news, hlt, h1, h2]
theorem news_inv {n size j : Nat} {g : Nat → Nat → Value} {v : Value} (h : (news n size g)[j]? = some v) : ∃ i k, i < n ∧ k < size ∧ j = i * size + k ∧ v = g i k := by
  have hj := (List.getElem?_eq_some_iff.1 h).1
  rw [news_len] at hj
  have h0 : 0 < size := by
    rcases Nat.eq_zero_or_pos size with h | h
    · subst h; simp at hj
    · exact h
  refine ⟨j / size, j % size, Nat.div_lt_of_lt_mul (by rw [Nat.mul_comm]; exact hj), Nat.mod_lt _ h0, by rw [Nat.mul_comm]; exact (Nat.div_add_mod j size).symm, ?_⟩
  simp [news, hj] at h
  exact h.symm

theorem first_of {P : Program} {w1 : World} {size c : Nat} {A : Option Addr} {es : List V} {g : Nat → Nat → Value} (h : es ≠ [] → ∃ b off, A = some ⟨b, off, none⟩ ∧ ∀ (i : Nat) (e : V) k x, es[i]? = some e → (cells e)[k]? = some x → w.cell? ⟨b, off + (i * size + k), none⟩ = some (g i k))
    (hs : ∀ e ∈ es, (cells e).length = size) (hw : w1.heap = w.heap) :
    (Builtin.firstCells size es.length (.slice A es.length c)).run P w1 = .ok (news es.length size g).toArray w1 := by
  by_cases h0 : es = []
  · subst h0
    cases A with
    | none => simp [run_firstCells_none, news]
    | some a => exact run_firstCells_some w1 size 0 a 0 c (news 0 size g) (by simp [news]) (by simp [news])
  · obtain ⟨b, off, rfl, hc⟩ := h h0
    refine run_firstCells_some w1 size es.length _ es.length c _ news_len fun j v hv => ?_
    obtain ⟨i, k, hi, hk, rfl, rfl⟩ := news_inv hv
    have he : es[i]? = some (es[i]) := List.getElem?_eq_getElem hi
    have hx : (cells es[i])[k]? = some ((cells es[i])[k]'(by rw [hs _ (List.getElem_mem _)]; exact hk)) := List.getElem?_eq_getElem _
    rw [Addr.add_lit, ← hc i _ k _ he hx]
    unfold World.cell?
    rw [hw]

theorem Src.first {P : Program} {w1 : World} {size : Nat} {es : List V} {u : Value} {g : Nat → Nat → Value} (s : Src w ρ rt size es u g) (hs : ∀ e ∈ es, (cells e).length = size) (hw : w1.heap = w.heap) :
    (Builtin.firstCells size es.length u).run P w1 = .ok (news es.length size g).toArray w1 := by
  obtain ⟨A, c, rfl, h⟩ := s.shape
  exact first_of h hs hw

theorem Src.one {size : Nat} {es : List V} {u : Value} {g : Nat → Nat → Value} (s : Src w ρ rt size es u g) (hs : ∀ e ∈ es, (cells e).length = size ∧ (cells e).all cellV = true) : ∀ v ∈ news es.length size g, v.oneCell' = true := by
  intro v hv
  obtain ⟨j, hj⟩ := List.mem_iff_getElem?.1 hv
  obtain ⟨i, k, hi, hk, rfl, rfl⟩ := news_inv hj
  have he : es[i]? = some (es[i]) := List.getElem?_eq_getElem hi
  have hx : (cells es[i])[k]? = some ((cells es[i])[k]'(by rw [(hs _ (List.getElem_mem _)).1]; exact hk)) := List.getElem?_eq_getElem _
  have := rep_one (s.rep i _ k _ he hx) (List.all_eq_true.1 (hs _ (List.getElem_mem _)).2 _ (List.getElem_mem _))
  generalize g i k = y at this
  cases y <;> first | rfl | exact this.elim
end Go.Ln
/- The append itself. -/
set_option linter.unusedVariables false
set_option linter.unusedSimpArgs false
set_option linter.unusedSectionVars false
namespace Go.Ln
open Go
variable {w w' : World} {ρ ρ' ρ'' : Own} {rt rt' rt'' : Store} {N : Nat → Nat → Prop}

/-- The memory behind a step that gives the root 'id' a row: all else is as it was. -/
structure Near (w : World) (ρ : Own) (w' : World) (ρ' : Own) (id : Nat) : Prop where
  h1 : ∀ b, ρ b = none → b < w.heap.size → ρ' b = none ∧ w'.heap[b]? = w.heap[b]?
  h2 : ∀ b o l, ρ b = some (o, l) → (o ≠ id ∨ l ≠ []) → ρ' b = some (o, l) ∧ w'.heap[b]? = w.heap[b]?
  h3 : ∀ b o l, ρ' b = some (o, l) → b < w'.heap.size ∧ (ρ b = some (o, l) ∨ (o = id ∧ l = []))
  wk : Wk w w'

theorem Near.keep {id : Nat} (n : Near w ρ w' ρ' id) (hp : 0 < id) (hid : rt id = none) (hN : ∀ nv, N id nv) {r : Option Root} : Keep N w ρ rt w' ρ' (upd rt id r) := by
  refine ⟨fun b hb hl => n.h1 b hb hl, fun o nv p hNo hl => ?_, fun b l hb => n.h2 b 0 l hb (.inl (by omega))⟩
  have hne : o ≠ id := by rintro rfl; exact hNo (hN nv)
  refine ⟨by simpa [live, look, valid, upd, hne] using hl, fun b m hb hbl => ?_⟩
  exact ⟨(n.h2 b o p hb (.inl hne)).1, n.wk.blk b m hbl⟩

theorem Near.eff {U : Pl} (a : Abs N w ρ rt ρ' rt' U) {id : Nat} (hp : 0 < id) (hU : ∀ o l, U o l → o = 0 ∨ o = id) (hid : rt id = none) (hN : ∀ nv, N id nv) {w' : World} {ρ'' : Own} (n : Near w ρ' w' ρ'' id) (J : Inj ρ'') {s : Nat} {es : List V}
    (row : RowOk w' ρ'' (upd rt' id (some ⟨0, s, es⟩)) (id, []) s es) (hn : nhs es) : Eff N w ρ rt w' ρ'' (upd rt' id (some ⟨0, s, es⟩)) id := by
  have hid' := a.gone hid
  have K := n.keep (N := N) (rt := rt') hp hid' hN (r := some ⟨0, s, es⟩)
  refine ⟨?_, J, ?_, a.keep.trans K (Nat.le_refl _), ?_, n.wk, ?_, fun b l h => a.f0 b l (by
    rcases (n.h3 b 0 l h).2 with h | h
    · exact h
    · omega)⟩
  · intro o r h
    by_cases ho : o = id
    · subst ho
      simp [upd] at h
      subst h
      exact row
    · simp [upd, ho] at h
      exact RowOk.under K (fun b l hb _ => n.h2 b o l hb (.inl ho)) (a.rok o r h) (a.rtn o r h)
  · intro o r h
    by_cases ho : o = id
    · simp [upd, ho] at h
      subst h
      exact hn
    · simp [upd, ho] at h
      exact a.rtn o r h
  · refine ⟨fun b o l h => ?_, by simp [upd, Nat.ne_of_lt hp, a.lab.z], fun b l h => ?_⟩
    rotate_left
    · rcases (n.h3 b 0 l h).2 with h | h
      · exact a.lab.f _ _ h
      · omega
    obtain ⟨h1, h2⟩ := n.h3 b o l h
    refine ⟨h1, ?_⟩
    by_cases ho : o = id
    · exact .inr ⟨⟨0, s, es⟩, by simp [upd, ho]⟩
    · rcases h2 with h2 | h2
      · rcases (a.lab b o l h2).2 with hu | ⟨r, hu⟩
        · rcases hU _ _ hu with h | h
          · exact .inl h
          · exact absurd h ho
        · exact .inr ⟨r, by simp [upd, ho, hu]⟩
      · exact absurd h2.1 ho
  · intro o r h
    by_cases ho : o = id
    · subst ho; exact .inr ⟨Nat.le_refl _, by simp [room]⟩
    · simp [upd, ho] at h
      obtain ⟨r', h', e, _⟩ := a.nv o r h
      exact .inl ⟨r', h', by omega⟩

theorem append_in {P : Program} {t t1 ty e e' : TypeId} {i : TypeInfo} (ht : P.underlying t = some (.slice e)) (ht1 : P.underlying t1 = some (.slice e')) (hi : P.info? e = some i) {ts : Array TypeId} (h0 : ts[0]? = some t) (h1 : ts[1]? = some t1)
    {g sLen sCap n : Nat} {cur : Array Value} {T : TypeId} {u : Value} {nw : List Value} (hg : w.heap[g]? = some (.cells cur T (0, 0))) (hu : ∃ A c, u = .slice A n c) (hf : (Builtin.firstCells i.size n u).run P w = .ok nw.toArray w)
    (hone : ∀ v ∈ nw, v.oneCell' = true) (hroom : sLen + n ≤ sCap) (hfit : sLen * i.size + nw.length ≤ cur.size) :
    (Builtin.append_ ts ty #[.slice (some ⟨g, 0, none⟩) sLen sCap, u]).run P w = .ok (.slice (some ⟨g, 0, none⟩) (sLen + n) sCap) (w.setRow g (cur.toList.take (sLen * i.size) ++ nw ++ cur.toList.drop (sLen * i.size + nw.length)).toArray) := by
  obtain ⟨A, c, rfl⟩ := hu
  have hst := run_storeCells_at P g (sLen * i.size) T nw 0 cur w hg (by simpa using hfit) hone
  simp only [Nat.add_zero] at hst
  simp [Builtin.append_, h0, h1, run_underlying ht, run_underlying ht1, sizeOf, typeInfo, hi, Builtin.lenOf, hroom, hf, Addr.add_lit, hst]

theorem append_none {P : Program} {t t1 ty e e' : TypeId} {i : TypeInfo} (ht : P.underlying t = some (.slice e)) (ht1 : P.underlying t1 = some (.slice e')) (hi : P.info? e = some i) {ts : Array TypeId} (h0 : ts[0]? = some t) (h1 : ts[1]? = some t1)
    {A A' : Option Addr} {sLen c c' : Nat} (hc : sLen ≤ c) : (Builtin.append_ ts ty #[.slice A sLen c, .slice A' 0 c']).run P w = .ok (.slice A sLen c) w := by
  have hf : (Builtin.firstCells i.size 0 (.slice A' 0 c')).run P w = .ok #[] w := by
    cases A' with
    | none => exact run_firstCells_none w _ _ _ _
    | some a => exact run_firstCells_some w i.size 0 a 0 c' [] (by simp) (by simp)
  cases A with
  | none => simp [Builtin.append_, h0, h1, run_underlying ht, run_underlying ht1, sizeOf, typeInfo, hi, Builtin.lenOf, hc, hf]
  | some a => simp [Builtin.append_, h0, h1, run_underlying ht, run_underlying ht1, sizeOf, typeInfo, hi, Builtin.lenOf, hc, hf, storeCells]

theorem append_new {P : Program} {t t1 ty e e' : TypeId} {i : TypeInfo} {z : Value} (ht : P.underlying t = some (.slice e)) (ht1 : P.underlying t1 = some (.slice e')) (hi : P.info? e = some i) (hz : i.zero = some z) {ts : Array TypeId} (h0 : ts[0]? = some t) (h1 : ts[1]? = some t1)
    {A : Option Addr} {sLen sCap n : Nat} {u : Value} {olds nw : List Value} (hu : ∃ A c, u = .slice A n c) (ho : (Builtin.firstCells i.size sLen (.slice A sLen sCap)).run P w.drew = .ok olds.toArray w.drew) (hf : (Builtin.firstCells i.size n u).run P w.drew = .ok nw.toArray w.drew)
    (hg : sCap < sLen + n) (hl : sLen + n ≤ lim) (hb : (sLen + n) * i.bytes ≤ lim) :
    (Builtin.append_ ts ty #[.slice A sLen sCap, u]).run P w = .ok (.slice (some ⟨w.heap.size, 0, none⟩) (sLen + n) (grownCap w (sLen + n) sCap e))
      (w.drew.alloc (.cells (olds ++ nw ++ (Builtin.zeroCells z.cells (grownCap w (sLen + n) sCap e - (sLen + n))).toList).toArray e)) := by
  obtain ⟨A', c, rfl⟩ := hu
  have hlim : lim = 1099511627776 := rfl
  have hn : ¬ (sLen + n ≤ sCap) := by omega
  have h63' : ¬ (9223372036854775807 < ((sLen : Int) + (n : Int))) := by omega
  have h48' : ¬ (281474976710656 < Builtin.nextslicecap (sLen + n) sCap * i.bytes) := by
    have h1 : Builtin.nextslicecap (sLen + n) sCap * i.bytes ≤ 2 * (sLen + n) * i.bytes := Nat.mul_le_mul_right _ (nextslicecap_le hg)
    rw [Nat.mul_assoc] at h1
    omega
  simp [Builtin.append_, h0, h1, run_underlying ht, run_underlying ht1, sizeOf, typeInfo, zeroValue, hi, hz, Builtin.lenOf, hn, h63', h48', Question.forced, hf, ho, newRow, grownCap]
  congr 2
  apply Array.ext'
  simp

theorem usl_parts {l : Loc} {s : Nat} {z : List V} {u : Value} (h : RepV w ρ rt (some l) (.usl s z) u) : ∃ A c, ∃ g : Nat → Nat → Value, u = .slice A z.length c ∧ z.length ≤ c ∧ (∀ (i : Nat) (e : V), z[i]? = some e → (cells e).length = s) ∧
    (c ≠ 0 → ∃ b arr T, ρ b = some l ∧ w.heap[b]? = some (.cells arr T (0, 0)) ∧ A = some ⟨b, 0, none⟩ ∧ c * s ≤ arr.size ∧ ∀ (i : Nat) (e : V) k x, z[i]? = some e → (cells e)[k]? = some x → arr[i * s + k]? = some (g i k)) ∧
    (∀ (i : Nat) (e : V) k x, z[i]? = some e → (cells e)[k]? = some x → RepV w ρ rt (some (l.at i k)) x (g i k)) := by
  cases h with
  | usl0 _ _ A => exact ⟨A, 0, fun _ _ => undef, rfl, by simp, by simp, by simp, by simp⟩
  | usl _ _ _ b A c arr T g hρ hb hl hA hcap hs hc hh => exact ⟨A, c, g, rfl, hl, hs, fun h0 => ⟨b, arr, T, hρ, hb, hA h0, hcap, hc⟩, hh⟩

theorem absorb_hs {o nv : Nat} {p : List (Nat × Nat)} {s off len : Nat} {v : V} (h : absorbCell rt (.hs o nv p s off len) = some (v, rt')) {s1 : Nat} {row : List V} (hl : look rt o nv p = some (s1, row)) : v = .usl s1 (row.take len) ∧ s = s1 ∧ off = 0 := by
  unfold absorbCell at h
  unfold look at hl
  simp only [Option.bind_eq_some_iff] at h hl
  obtain ⟨r, hr, x, hx, h⟩ := h
  obtain ⟨r', hr', hx'⟩ := hl
  rw [hr] at hr'
  cases hr'
  rw [hx] at hx'
  cases hx'
  split at h
  · rename_i hc
    simp only [Option.map_eq_some_iff] at h
    obtain ⟨_, _, h⟩ := h
    cases h
    exact ⟨rfl, hc.2.2, hc.1⟩
  · cases h

section
variable {P : Program} {E : Env} (A : Agree P E) {st : St} {a : Act} {o : Oper} (H : RtOk w ρ st.rt) (J : Inj ρ) (T : TmOk w ρ st.rt st.tm a.tmps) (hr : RtN st.rt) (hL : Lab w ρ st.rt noU) {Un : Nat → Prop} {id : Nat} (hm : TmN (NewOf Un st.rt) st.tm) (hi : Fresh Un st.rt id)
include A H J T hr hL hm hi

theorem n_append {t t1 : TypeId} {x y : Operand} {d xv v : V} {ts : Array TypeId} {rt' : Store} (ho : o.op = .call { callee := .builtin .append, args := #[x, y], argTypes := ts }) (h0 : ts[0]? = some t) (h1 : ts[1]? = some t1) (hs1 : isSliceD (E.desc t1) = true)
    (hd : ev st x = some d) (hx : ev st y = some xv) (h : appendV E st.rt id t d xv = some (v, rt')) :
    ∃ u w', (execOp a.eval o).run P w = .ok (.value u) w' ∧ Out Un w ρ st.rt id v rt' u w' := by
  obtain ⟨e', he'⟩ : ∃ e', P.underlying t1 = some (.slice e') := by
    cases hq : E.desc t1 with
    | none => simp [hq, isSliceD] at hs1
    | some d => cases d <;> simp [hq, isSliceD] at hs1; exact ⟨_, A.desc hq⟩
  have hN : ∀ nv, NewOf Un st.rt id nv := fun nv => .inl hi.uid
  have hid := hi.at
  have go : ∀ u w', (Builtin.append_ ts o.type #[a.eval x, a.eval y]).run P w = .ok u w' → Out Un w ρ st.rt id v rt' u w' → ∃ u w', (execOp a.eval o).run P w = .ok (.value u) w' ∧ Out Un w ρ st.rt id v rt' u w' := by
    intro u w' hrun hout
    exact ⟨u, w', by simp [execOp, ho, resolve, invoke, builtin, hrun], hout⟩
  unfold appendV at h
  split at h
  · rename_i e sz bt zv htt
    simp only [Option.bind_eq_some_iff] at h
    obtain ⟨ei, hei, ⟨es, rt1⟩, hes, h⟩ := h
    split at h
    · rename_i hall
      simp only at hall
      obtain ⟨⟨hpos, hzs⟩, hall⟩ := hall
      have hall' : ∀ e ∈ es, (cells e).length = ei.size ∧ (cells e).all cellV = true := fun e he => by
        have := List.all_eq_true.1 hall e he
        simp only [Bool.and_eq_true, beq_iff_eq] at this
        exact this
      have hsz : ∀ e ∈ es, (cells e).length = ei.size := fun e he => (hall' e he).1
      obtain ⟨i, hi1, hi2, hi3, hi4⟩ := A.info e ei hei
      have hu := A.und t _ htt
      simp only at hu
      have hxa : isAggV xv = false := by cases xv <;> first | rfl | simp [takeEls] at hes
      obtain ⟨ρ1, g, ab, hesn, src⟩ := takeEls_ok (N := NewOf Un st.rt) H J hr hL (Slot.one hxa (ev_rep T hx)) (ev_nn hm hx) hes hsz hpos
      have shape := src.shape
      obtain ⟨Ax, cx, hux, hAx⟩ := shape
      have hfirst : ∀ w1 : World, w1.heap = w.heap → (Builtin.firstCells i.size es.length (a.eval y)).run P w1 = .ok (news es.length ei.size g).toArray w1 := fun w1 hw1 => by
        rw [hi2]
        exact src.first hsz hw1
      have hone := src.one hall'
      split at h
      · -- nothing yet
        rename_i nl
        split at h
        · rename_i hlim
          cases h
          simp only at hlim ⊢
          obtain ⟨l1, l2⟩ := hlim
          have hdr := Slot.one rfl (ev_rep T hd)
          have hud : a.eval x = .slice none 0 0 := by
            generalize a.eval x = ud at hdr
            cases hdr with
            | isl0 _ _ _ c hn => obtain ⟨rfl, rfl⟩ := hn rfl; rfl
          by_cases hne : es = []
          · subst hne
            have hrun := append_none (P := P) (w := w) (ty := o.type) hu he' hi1 h0 h1 (A := none) (sLen := 0) (c := 0) (A' := Ax) (c' := cx) (Nat.le_refl _)
            refine go (.slice none 0 0) w (by rw [hud, hux]; exact hrun) ⟨ρ1, ?_, Slot.mk1 rfl (.hs _ _ _ _ _ _ _ _ (fun _ => ⟨0, none, rfl, Nat.le_refl _, fun h => absurd rfl h⟩) trivial), new_val_hs A H J T hr hL hm hi⟩
            refine Near.eff ab hi.p (fun o l h => .inl h) hid hN ⟨fun b hb _ => ⟨hb, rfl⟩, fun b o l hb _ => ⟨hb, rfl⟩, fun b o l hb => ⟨(ab.lab b o l hb).1, .inl hb⟩, Wk.refl⟩ ab.inj (.inl rfl) hesn
          · have hpe : 0 < es.length := List.length_pos_iff.2 hne
            have hrun := append_new (P := P) (w := w) (ty := o.type) (u := a.eval y) (olds := []) hu he' hi1 hi4 h0 h1 (A := none) (sLen := 0) (sCap := 0) (n := es.length) ⟨_, _, hux⟩ (by simp [run_firstCells_none]) (hfirst _ rfl) (by omega) (by omega) (by rw [Nat.zero_add, hi3]; exact l1)
            rw [Nat.zero_add] at hrun
            simp only [List.nil_append] at hrun
            generalize hcap : grownCap w es.length 0 e = cap at hrun
            have hge : es.length ≤ cap := by rw [← hcap]; exact grownCap_ge _ _ _ _
            generalize harr : (news es.length ei.size g ++ (Builtin.zeroCells ei.zv.cells (cap - es.length)).toList).toArray = arr at hrun
            refine go _ _ (by rw [hud]; exact hrun) ⟨lab1 ρ1 w.heap.size (id, []), ?_, Slot.mk1 rfl (new_hs (w := w) (w' := w.drew.alloc (.cells arr e)) rfl hge ?_), new_val_hs A H J T hr hL hm hi⟩
            · refine Abs.newRoot (w' := w.drew.alloc (.cells arr e)) (es := es) (T := e) (g := g) ab hi.p (fun o l h => .inl h) hid hN rfl rfl rfl rfl (fun i e he => hsz e (List.mem_of_getElem? he)) ?_ (fun i e k x he hx => (src.rep i e k x he hx).anyN) hesn
              intro i e k x he hx
              have hi' := (List.getElem?_eq_some_iff.1 he).1
              have hk := (List.getElem?_eq_some_iff.1 hx).1
              rw [hsz e (List.mem_of_getElem? he)] at hk
              rw [← harr, List.getElem?_toArray, List.getElem?_append_left]
              · exact news_at hi' hk
              · exact (List.getElem?_eq_some_iff.1 (news_at (g := g) hi' hk)).1
            · rw [← harr]
              simp only [List.size_toArray, List.length_append, news_len, Array.length_toList, size_zeroCells, hzs]
              rw [← Nat.add_mul]
              exact Nat.mul_le_mul_right _ (by omega)
        · cases h
      · rename_i o1 nv p s off len
        simp only [Option.bind_eq_some_iff] at h
        obtain ⟨⟨s1, z⟩, hz, h⟩ := h
        split at h
        · rename_i hcond
          simp only at hcond
          obtain ⟨c1, c2, c3, c4, c5⟩ := hcond
          simp only [Option.map_eq_some_iff] at h
          obtain ⟨⟨dv, rt2⟩, hab, h⟩ := h
          cases h
          have hdn := ev_nn hm hd
          have hdr := (Slot.one rfl (ev_rep T hd)).keep ab.keep hdn
          obtain ⟨ρ2, ab2, dr, dn, dc⟩ := absorbCell_ok (N := NewOf Un st.rt) ab.rok ab.inj ab.rtn ab.lab (q := id) (dst := []) (fun l h => absurd hi.p (by simp only [noU] at h; omega)) (Nat.ne_of_gt hi.p) (ab.gone hid) hdr hdn hab
          obtain ⟨rfl, rfl, _⟩ := absorb_hs hab hz
          have abs := ab.trans ab2
          subst c2
          rw [List.take_length] at dr dn
          have hzn : nhs z := by simpa [nh] using dn
          subst c3
          have hesn' : nhs (z ++ es) := nhs_iff.2 fun x hx => by
            rcases List.mem_append.1 hx with h | h
            · exact nhs_iff.1 hzn x h
            · exact nhs_iff.1 hesn x h
          have hU : ∀ o l, atP noU id [] o l → o = 0 ∨ o = id := by
            rintro o l (h | h)
            · exact .inl h
            · exact .inr h.1
          obtain ⟨Ad, c, gz, hud, hlc, hzl, hblk, hzr⟩ := usl_parts dr
          have hzl' : ∀ e ∈ z, (cells e).length = ei.size := fun e he => by
            obtain ⟨j, hj⟩ := List.mem_iff_getElem?.1 he
            exact hzl j e hj
          have hesr : ∀ (i : Nat) (e : V) k x, es[i]? = some e → (cells e)[k]? = some x → RepV w ρ2 rt2 none x (g i k) := fun i e k x he hx => (src.rep i e k x he hx).keep ab2.keep (nh_noNew (nh_cell (nhs_get hesn he) hx))
          have hboth : ∀ (j : Nat) (e : V), (z ++ es)[j]? = some e → (j < z.length ∧ z[j]? = some e) ∨ (z.length ≤ j ∧ es[j - z.length]? = some e) := fun j e he => by
            by_cases hj : j < z.length
            · rw [List.getElem?_append_left hj] at he; exact .inl ⟨hj, he⟩
            · rw [List.getElem?_append_right (by omega)] at he; exact .inr ⟨by omega, he⟩
          by_cases hne : es = []
          · subst hne
            have hrun := append_none (P := P) (w := w) (ty := o.type) hu he' hi1 h0 h1 (A := Ad) (sLen := z.length) (c := c) (A' := Ax) (c' := cx) hlc
            simp only [List.append_nil, List.length_nil, Nat.add_zero] at go ⊢
            refine go (.slice Ad z.length c) w (by rw [hud, hux]; exact hrun) ⟨ρ2, ?_, Slot.mk1 rfl (.hs _ _ _ _ _ _ _ _ (fun _ => ⟨c, Ad, rfl, hlc, fun hc0 => ?_⟩) trivial), new_val_hs A H J T hr hL hm hi⟩
            · have n0 : Near w ρ2 w ρ2 id := ⟨fun b hb _ => ⟨hb, rfl⟩, fun b o l hb _ => ⟨hb, rfl⟩, fun b o l hb => ⟨(abs.lab b o l hb).1, .inl hb⟩, Wk.refl⟩
              refine Near.eff abs hi.p hU hid hN n0 abs.inj ?_ hzn
              exact RowOk.under (n0.keep (N := NewOf Un st.rt) (rt := rt2) hi.p (abs.gone hid) hN) (fun b l hb _ => ⟨hb, rfl⟩) (rowOk_usl dr) hzn
            · obtain ⟨b, arr, TT, q1, q2, rfl, q4, q5⟩ := hblk hc0
              exact ⟨b, _, q1, ⟨arr, TT, q2, rfl⟩, by simp, by simpa using q4⟩
          · have hpe : 0 < es.length := List.length_pos_iff.2 hne
            by_cases hroom : z.length + es.length ≤ c
            · -- in place
              obtain ⟨b, arr, TT, q1, q2, rfl, q4, q5⟩ := hblk (by omega)
              have hfit : z.length * ei.size + es.length * ei.size ≤ arr.size := by
                rw [← Nat.add_mul]
                exact Nat.le_trans (Nat.mul_le_mul_right _ hroom) q4
              have hrun := append_in (P := P) (ty := o.type) hu he' hi1 h0 h1 (u := a.eval y) (sLen := z.length) (sCap := c) (n := es.length) q2 ⟨_, _, hux⟩ (hfirst w rfl) hone hroom (by rw [news_len, hi2]; exact hfit)
              rw [news_len, hi2] at hrun
              generalize harr' : (arr.toList.take (z.length * ei.size) ++ news es.length ei.size g ++ arr.toList.drop (z.length * ei.size + es.length * ei.size)).toArray = arr' at hrun
              have hget' : ∀ j, arr'[j]? = if z.length * ei.size ≤ j ∧ j < z.length * ei.size + es.length * ei.size then (news es.length ei.size g)[j - z.length * ei.size]? else arr[j]? := fun j => by
                rw [← harr', List.getElem?_toArray, seg_get' (n := es.length * ei.size) news_len (by simpa using hfit)]
                simp
              have hsz' : arr'.size = arr.size := by rw [← harr']; simp [news_len]; omega
              have hw1 := setRow_heap w b arr arr' TT (0, 0) q2
              have hw2 : ∀ c, c ≠ b → (w.setRow b arr').heap[c]? = w.heap[c]? := fun c hc => setRow_other w b c arr' hc
              have n0 : Near w ρ2 (w.setRow b arr') ρ2 id := by
                refine ⟨fun b' hb _ => ⟨hb, hw2 b' (by rintro rfl; rw [q1] at hb; cases hb)⟩, fun b' o l hb hn => ⟨hb, hw2 b' (by rintro rfl; rw [q1] at hb; cases hb; rcases hn with h | h <;> exact h rfl)⟩, fun b' o l hb => ⟨by simpa using (abs.lab b' o l hb).1, .inl hb⟩, rfl, rfl, rfl, by simp, fun b' n hb => ?_⟩
                obtain ⟨a1, t1, p1, p2⟩ := hb
                by_cases hbb : b' = b
                · subst hbb
                  rw [q2] at p1
                  cases p1
                  exact ⟨arr', TT, hw1, by rw [hsz', p2]⟩
                · exact ⟨a1, t1, by rw [hw2 b' hbb]; exact p1, p2⟩
              have K := n0.keep (N := NewOf Un st.rt) (rt := rt2) (r := some ⟨0, ei.size, z ++ es⟩) hi.p (abs.gone hid) hN
              refine go _ _ (by rw [hud]; exact hrun) ⟨ρ2, ?_, Slot.mk1 rfl (.hs _ _ _ _ _ _ _ _ (fun _ => ⟨c, _, rfl, hroom, fun _ => ⟨b, arr'.size, q1, ⟨arr', TT, hw1, rfl⟩, by simp, by rw [hsz']; simpa using q4⟩⟩) trivial), new_val_hs A H J T hr hL hm hi⟩
              refine Near.eff abs hi.p hU hid hN n0 abs.inj (.inr ⟨b, arr', TT, fun i k => if i < z.length then gz i k else g (i - z.length) k, q1, hw1, ?_, ?_, ?_⟩) hesn'
              · intro j e he
                rcases hboth j e he with ⟨_, h⟩ | ⟨_, h⟩
                · exact hzl j e h
                · exact hsz e (List.mem_of_getElem? h)
              · intro j e k x he hx
                have hk := (List.getElem?_eq_some_iff.1 hx).1
                rcases hboth j e he with ⟨hj, h⟩ | ⟨hj, h⟩
                · rw [hzl j e h] at hk
                  have : (j + 1) * ei.size ≤ z.length * ei.size := Nat.mul_le_mul_right _ hj
                  rw [Nat.succ_mul] at this
                  show arr'[j * ei.size + k]? = some (if j < z.length then _ else _)
                  rw [if_pos hj, hget', if_neg (by omega)]
                  exact q5 j e k x h hx
                · have hje := (List.getElem?_eq_some_iff.1 h).1
                  rw [hsz e (List.mem_of_getElem? h)] at hk
                  have e1 : j * ei.size + k = z.length * ei.size + ((j - z.length) * ei.size + k) := by
                    rw [← Nat.add_assoc, ← Nat.add_mul]
                    congr 2
                    omega
                  have e2 := news_at (g := g) hje hk
                  have e3 := (List.getElem?_eq_some_iff.1 e2).1
                  rw [news_len] at e3
                  show arr'[j * ei.size + k]? = some (if j < z.length then _ else _)
                  rw [if_neg (by omega), hget', if_pos (by omega), e1, Nat.add_sub_cancel_left]
                  exact e2
              · intro j e k x he hx
                rcases hboth j e he with ⟨hj, h⟩ | ⟨hj, h⟩
                · show RepV _ _ _ _ _ (if j < z.length then _ else _)
                  rw [if_pos hj]
                  exact RepV.under K (fun b l hb hp => n0.h2 b id l hb (.inr (by rintro rfl; obtain ⟨t, ht⟩ := hp; simp at ht))) (hzr j e k x h hx) (nh_cell (nhs_get hzn h) hx)
                · show RepV _ _ _ _ _ (if j < z.length then _ else _)
                  rw [if_neg (by omega)]
                  exact ((hesr _ e k x h hx).keep K (nh_noNew (nh_cell (nhs_get hesn h) hx))).anyN
            · -- elsewhere
              have hlo : ∀ w1 : World, w1.heap = w.heap → (Builtin.firstCells i.size z.length (.slice Ad z.length c)).run P w1 = .ok (news z.length ei.size gz).toArray w1 := fun w1 hw1 => by
                rw [hi2]
                refine first_of (fun hzne => ?_) hzl' hw1
                obtain ⟨b, arr, TT, q1, q2, rfl, q4, q5⟩ := hblk (by have := List.length_pos_iff.2 hzne; omega)
                refine ⟨b, 0, rfl, fun i e k x he hx => ?_⟩
                rw [Nat.zero_add]
                simp only [World.cell?, q2]
                exact q5 i e k x he hx
              have hrun := append_new (P := P) (w := w) (ty := o.type) (u := a.eval y) hu he' hi1 hi4 h0 h1 (A := Ad) (sLen := z.length) (sCap := c) (n := es.length) ⟨_, _, hux⟩ (hlo _ rfl) (hfirst _ rfl) (by omega) c5 (by rw [hi3]; exact c4)
              generalize hcap : grownCap w (z.length + es.length) c e = cap at hrun
              have hge : z.length + es.length ≤ cap := by rw [← hcap]; exact grownCap_ge _ _ _ _
              generalize harr : (news z.length ei.size gz ++ news es.length ei.size g ++ (Builtin.zeroCells ei.zv.cells (cap - (z.length + es.length))).toList).toArray = arr at hrun
              let ρ3 : Own := fun b => if b = w.heap.size then some (id, []) else if ρ2 b = some (id, []) then none else ρ2 b
              have hw : (w.drew.alloc (.cells arr e)).heap = w.heap.push (.cells arr e (0, 0)) := rfl
              have hlt : ∀ b o l, ρ2 b = some (o, l) → b < w.heap.size := fun b o l hb => (abs.lab b o l hb).1
              have hold : ∀ b, b < w.heap.size → (w.drew.alloc (.cells arr e)).heap[b]? = w.heap[b]? := fun b hb => by
                rw [hw, Array.getElem?_push, if_neg (by omega)]
              have n0 : Near w ρ2 (w.drew.alloc (.cells arr e)) ρ3 id := by
                refine ⟨fun b hb hl => ⟨?_, hold b hl⟩, fun b o l hb hn => ⟨?_, hold b (hlt b o l hb)⟩, fun b o l hb => ?_, Wk.push hw rfl rfl rfl⟩
                · simp [ρ3, Nat.ne_of_lt hl, hb]
                · have := hlt b o l hb
                  simp only [ρ3]
                  rw [if_neg (by omega), if_neg]
                  · exact hb
                  · rw [hb]
                    intro hq
                    cases hq
                    rcases hn with h | h <;> exact h rfl
                · simp only [ρ3] at hb
                  split at hb
                  · cases hb
                    rename_i hb'
                    subst hb'
                    exact ⟨by rw [hw]; simp, .inr ⟨rfl, rfl⟩⟩
                  · split at hb
                    · cases hb
                    · exact ⟨by rw [hw]; have := hlt b o l hb; simp; omega, .inl hb⟩
              have J3 : Inj ρ3 := by
                intro b b' L hb hb'
                simp only [ρ3] at hb hb'
                split at hb <;> split at hb'
                · simp_all
                · cases hb
                  split at hb'
                  · cases hb'
                  · rename_i h ; exact absurd hb' h
                · cases hb'
                  split at hb
                  · cases hb
                  · rename_i h ; exact absurd hb h
                · split at hb
                  · cases hb
                  · split at hb'
                    · cases hb'
                    · exact abs.inj _ _ _ hb hb'
              have K := n0.keep (N := NewOf Un st.rt) (rt := rt2) (r := some ⟨0, ei.size, z ++ es⟩) hi.p (abs.gone hid) hN
              have hb3 : ρ3 w.heap.size = some (id, []) := by simp [ρ3]
              have hsz3 : cap * ei.size ≤ arr.size := by
                rw [← harr]
                simp only [List.size_toArray, List.length_append, news_len, Array.length_toList, size_zeroCells, hzs]
                rw [← Nat.add_mul, ← Nat.add_mul]
                exact Nat.mul_le_mul_right _ (by omega)
              have hnew : (w.drew.alloc (.cells arr e)).heap[w.heap.size]? = some (.cells arr e (0, 0)) := by rw [hw]; simp
              refine go _ _ (by rw [hud]; exact hrun) ⟨ρ3, ?_, Slot.mk1 rfl (.hs _ _ _ _ _ _ _ _ (fun _ => ⟨cap, _, rfl, hge, fun _ => ⟨w.heap.size, arr.size, hb3, ⟨arr, e, hnew, rfl⟩, by simp, by simpa using hsz3⟩⟩) trivial), new_val_hs A H J T hr hL hm hi⟩
              refine Near.eff abs hi.p hU hid hN n0 J3 (.inr ⟨w.heap.size, arr, e, fun i k => if i < z.length then gz i k else g (i - z.length) k, hb3, hnew, ?_, ?_, ?_⟩) hesn'
              · intro j e he
                rcases hboth j e he with ⟨_, h⟩ | ⟨_, h⟩
                · exact hzl j e h
                · exact hsz e (List.mem_of_getElem? h)
              · intro j e k x he hx
                have hk := (List.getElem?_eq_some_iff.1 hx).1
                rw [← harr, List.getElem?_toArray]
                rcases hboth j e he with ⟨hj, h⟩ | ⟨hj, h⟩
                · rw [hzl j e h] at hk
                  have e2 := news_at (g := gz) hj hk
                  have e3 := (List.getElem?_eq_some_iff.1 e2).1
                  show _ = some (if j < z.length then _ else _)
                  rw [if_pos hj, List.append_assoc, List.getElem?_append_left e3]
                  exact e2
                · have hje := (List.getElem?_eq_some_iff.1 h).1
                  rw [hsz e (List.mem_of_getElem? h)] at hk
                  have e1 : j * ei.size + k = z.length * ei.size + ((j - z.length) * ei.size + k) := by
                    rw [← Nat.add_assoc, ← Nat.add_mul]
                    congr 2
                    omega
                  have e2 := news_at (g := g) hje hk
                  have e3 := (List.getElem?_eq_some_iff.1 e2).1
                  show _ = some (if j < z.length then _ else _)
                  rw [if_neg (by omega), List.append_assoc, e1, List.getElem?_append_right (by rw [news_len]; omega), news_len, Nat.add_sub_cancel_left, List.getElem?_append_left e3]
                  exact e2
              · intro j e k x he hx
                rcases hboth j e he with ⟨hj, h⟩ | ⟨hj, h⟩
                · show RepV _ _ _ _ _ (if j < z.length then _ else _)
                  rw [if_pos hj]
                  exact RepV.under K (fun b l hb hp => n0.h2 b id l hb (.inr (by rintro rfl; obtain ⟨t, ht⟩ := hp; simp at ht))) (hzr j e k x h hx) (nh_cell (nhs_get hzn h) hx)
                · show RepV _ _ _ _ _ (if j < z.length then _ else _)
                  rw [if_neg (by omega)]
                  exact ((hesr _ e k x h hx).keep K (nh_noNew (nh_cell (nhs_get hesn h) hx))).anyN
        · cases h
      · cases h
    · cases h
  · cases h
end
end Go.Ln
/- What comes in, at a call or at its end, is given places in the store. -/
set_option linter.unusedVariables false
set_option linter.unusedSimpArgs false
set_option linter.unusedSectionVars false
namespace Go.Ln
open Go
variable {w w' : World} {ρ ρ' ρ'' : Own} {rt rt' rt'' : Store} {N : Nat → Nat → Prop}

def rootOf : V → Root
  | .usl s es => ⟨0, s, es⟩
  | .uptr e => ⟨0, (cells e).length, [e]⟩
  | _ => ⟨0, 0, []⟩
def handleOf (id : Nat) : V → V
  | .usl s es => .hs id 0 [] s 0 es.length
  | .uptr e => .hp id 0 [] (cells e).length 0 0
  | v => v

theorem own_or (v : V) : notOwn v ∨ (∃ s es, v = .usl s es) ∨ ∃ e, v = .uptr e := by cases v <;> simp [notOwn]

abbrev NewR := Nat × Nat × Root

theorem instC_own {c id k : Nat} {x : V} {vs : List V} (h : ¬ notOwn x) : instC c id k (x :: vs) = (handleOf id x :: (instC c (id + 1) (k + 1) vs).1, (c, k, rootOf x) :: (instC c (id + 1) (k + 1) vs).2) := by
  cases x <;> first | rfl | exact absurd trivial h
theorem instC_not {c id k : Nat} {x : V} {vs : List V} (h : notOwn x) : instC c id k (x :: vs) = (x :: (instC c id (k + 1) vs).1, (instC c id (k + 1) vs).2) := by
  cases x <;> first | rfl | exact h.elim

theorem instC_spec {c : Nat} : ∀ {vs : List V} {id k : Nat}, (instC c id k vs).1.length = vs.length ∧
    (∀ (j : Nat) (e : NewR), (instC c id k vs).2[j]? = some e → ∃ k' x, vs[k']? = some x ∧ e = (c, k + k', rootOf x) ∧ ¬ notOwn x) ∧
    (∀ (k' : Nat) (x : V), vs[k']? = some x → (notOwn x ∧ (instC c id k vs).1[k']? = some x) ∨ (¬ notOwn x ∧ ∃ j : Nat, (instC c id k vs).2[j]? = some (c, k + k', rootOf x) ∧ (instC c id k vs).1[k']? = some (handleOf (id + j) x))) ∧
    (∀ (i j : Nat) (e e' : NewR), (instC c id k vs).2[i]? = some e → (instC c id k vs).2[j]? = some e' → e.2.1 = e'.2.1 → i = j)
  | [], id, k => by simp [instC]
  | x :: vs, id, k => by
    by_cases hx : notOwn x
    · rw [instC_not hx]
      obtain ⟨h1, h2, h3, h4⟩ := instC_spec (c := c) (vs := vs) (id := id) (k := k + 1)
      refine ⟨by simp [h1], fun j e he => ?_, fun k' y hy => ?_, h4⟩
      · obtain ⟨k', y, hy, e1, e2⟩ := h2 j e he
        exact ⟨k' + 1, y, by simpa using hy, by rw [e1]; congr 2; omega, e2⟩
      · cases k' with
        | zero => simp at hy; subst hy; exact .inl ⟨hx, by simp⟩
        | succ k' =>
          rcases h3 k' y (by simpa using hy) with h | ⟨h, j, hj, hj'⟩
          · exact .inl ⟨h.1, by simpa using h.2⟩
          · exact .inr ⟨h, j, by rw [hj]; congr 3; omega, by simpa using hj'⟩
    · rw [instC_own hx]
      obtain ⟨h1, h2, h3, h4⟩ := instC_spec (c := c) (vs := vs) (id := id + 1) (k := k + 1)
      refine ⟨by simp [h1], fun j e he => ?_, fun k' y hy => ?_, fun i j e e' he he' heq => ?_⟩
      · cases j with
        | zero => simp at he; subst he; exact ⟨0, x, by simp, by simp, hx⟩
        | succ j =>
          obtain ⟨k', y, hy, e1, e2⟩ := h2 j e (by simpa using he)
          exact ⟨k' + 1, y, by simpa using hy, by rw [e1]; congr 2; omega, e2⟩
      · cases k' with
        | zero => simp at hy; subst hy; exact .inr ⟨hx, 0, by simp, by simp⟩
        | succ k' =>
          rcases h3 k' y (by simpa using hy) with h | ⟨h, j, hj, hj'⟩
          · exact .inl ⟨h.1, by simpa using h.2⟩
          · refine .inr ⟨h, j + 1, ?_, ?_⟩
            · simp only [List.getElem?_cons_succ]; rw [hj]; congr 3; omega
            · simp only [List.getElem?_cons_succ]; rw [hj']; congr 2; omega
      · cases i with
        | zero =>
          cases j with
          | zero => rfl
          | succ j =>
            simp at he; subst he
            obtain ⟨k', y, hy, e1, e2⟩ := h2 j e' (by simpa using he')
            subst e1
            simp at heq
            omega
        | succ i =>
          cases j with
          | zero =>
            simp at he'; subst he'
            obtain ⟨k', y, hy, e1, e2⟩ := h2 i e (by simpa using he)
            subst e1
            simp at heq
            omega
          | succ j => rw [h4 i j e e' (by simpa using he) (by simpa using he') heq]

theorem handle_one {id : Nat} {x : V} (h : ¬ notOwn x) : isAggV (handleOf id x) = false := by cases x <;> first | rfl | exact absurd trivial h

/-- One value. -/
theorem inst1_spec {id c : Nat} {v : V} : isAggV (inst1 id c v).1 = isAggV v ∧ (cells (inst1 id c v).1).length = (cells v).length ∧ (inst1 id c v).2 = (instC c id 0 (cells v)).2 ∧ cells (inst1 id c v).1 = (instC c id 0 (cells v)).1 := by
  by_cases ha : isAggV v = true
  · cases v <;> simp [isAggV] at ha
    rename_i cs
    have := (instC_spec (c := c) (vs := cs) (id := id) (k := 0)).1
    exact ⟨rfl, this, rfl, rfl⟩
  · have ha' : isAggV v = false := by simpa using ha
    have hc := cells_one ha'
    have e1 : (inst1 id c v).1 = (instC c id 0 [v]).1.headD .und := by
      unfold inst1
      rw [hc]
      cases v <;> first | rfl | exact absurd rfl ha
    have e2 : ∃ y, (instC c id 0 [v]).1 = [y] ∧ isAggV y = false := by
      by_cases hn : notOwn v
      · rw [instC_not hn]; exact ⟨v, rfl, ha'⟩
      · rw [instC_own hn]; exact ⟨_, rfl, handle_one hn⟩
    obtain ⟨y, e2, e3⟩ := e2
    rw [e2] at e1
    simp at e1
    rw [e1]
    refine ⟨by rw [e3, ha'], by rw [cells_one e3, hc]; rfl, by simp [inst1], by rw [cells_one e3, hc, e2]⟩

theorem inst1s_spec : ∀ {vs : List V} {id c : Nat}, (inst1s id c vs).1.length = vs.length ∧
    (∀ (j : Nat) (e : NewR), (inst1s id c vs).2[j]? = some e → ∃ c' v k x, vs[c']? = some v ∧ (cells v)[k]? = some x ∧ e = (c + c', k, rootOf x) ∧ ¬ notOwn x) ∧
    (∀ (c' : Nat) (v : V), vs[c']? = some v → ∃ y, (inst1s id c vs).1[c']? = some y ∧ isAggV y = isAggV v ∧ (cells y).length = (cells v).length ∧
      ∀ (k : Nat) (x : V), (cells v)[k]? = some x → (notOwn x ∧ (cells y)[k]? = some x) ∨ (¬ notOwn x ∧ ∃ j : Nat, (inst1s id c vs).2[j]? = some (c + c', k, rootOf x) ∧ (cells y)[k]? = some (handleOf (id + j) x))) ∧
    (∀ (i j : Nat) (e e' : NewR), (inst1s id c vs).2[i]? = some e → (inst1s id c vs).2[j]? = some e' → e.1 = e'.1 → e.2.1 = e'.2.1 → i = j)
  | [], id, c => by simp [inst1s]
  | v :: vs, id, c => by
    obtain ⟨a1, a2, a3, a4⟩ := inst1_spec (id := id) (c := c) (v := v)
    obtain ⟨b1, b2, b3, b4⟩ := instC_spec (c := c) (vs := cells v) (id := id) (k := 0)
    obtain ⟨h1, h2, h3, h4⟩ := inst1s_spec (vs := vs) (id := id + (inst1 id c v).2.length) (c := c + 1)
    simp only [inst1s]
    rw [← a3] at b2 b3 b4
    refine ⟨by simp [h1], fun j e he => ?_, fun c' y hy => ?_, fun i j e e' he he' q1 q2 => ?_⟩
    · by_cases hj : j < (inst1 id c v).2.length
      · rw [List.getElem?_append_left hj] at he
        obtain ⟨k', x, hx, e1, e2⟩ := b2 j e he
        exact ⟨0, v, k', x, by simp, hx, by simpa using e1, e2⟩
      · rw [List.getElem?_append_right (by omega)] at he
        obtain ⟨c', v', k, x, q1, q2, q3, q4⟩ := h2 _ e he
        exact ⟨c' + 1, v', k, x, by simpa using q1, q2, by rw [q3]; congr 1; omega, q4⟩
    · cases c' with
      | zero =>
        simp at hy
        subst hy
        refine ⟨(inst1 id c v).1, by simp, a1, a2, fun k x hx => ?_⟩
        rw [a4]
        rcases b3 k x hx with h | ⟨h, j, hj, hj'⟩
        · exact .inl h
        · refine .inr ⟨h, j, ?_, hj'⟩
          rw [List.getElem?_append_left (List.getElem?_eq_some_iff.1 hj).1, hj]
          simp
      | succ c' =>
        obtain ⟨y', e1, e2, e3, e4⟩ := h3 c' y (by simpa using hy)
        refine ⟨y', by simpa using e1, e2, e3, fun k x hx => ?_⟩
        rcases e4 k x hx with h | ⟨h, j, hj, hj'⟩
        · exact .inl h
        · refine .inr ⟨h, (inst1 id c v).2.length + j, ?_, by rw [hj']; congr 2; omega⟩
          rw [List.getElem?_append_right (by omega), Nat.add_sub_cancel_left, hj]
          congr 2
          omega
    · by_cases hi : i < (inst1 id c v).2.length <;> by_cases hj : j < (inst1 id c v).2.length
      · rw [List.getElem?_append_left hi] at he
        rw [List.getElem?_append_left hj] at he'
        exact b4 i j e e' he he' q2
      · rw [List.getElem?_append_left hi] at he
        rw [List.getElem?_append_right (by omega)] at he'
        obtain ⟨k', x, _, e1, _⟩ := b2 i e he
        obtain ⟨c', v', k, x', _, _, e3, _⟩ := h2 _ e' he'
        subst e1 e3
        simp at q1
        omega
      · rw [List.getElem?_append_right (by omega)] at he
        rw [List.getElem?_append_left hj] at he'
        obtain ⟨k', x, _, e1, _⟩ := b2 j e' he'
        obtain ⟨c', v', k, x', _, _, e3, _⟩ := h2 _ e he
        subst e1 e3
        simp at q1
        omega
      · rw [List.getElem?_append_right (by omega)] at he he'
        have := h4 _ _ e e' he he' q1 q2
        omega
end Go.Ln
/- What comes in, read from its new places. -/
set_option linter.unusedVariables false
set_option linter.unusedSimpArgs false
set_option linter.unusedSectionVars false
namespace Go.Ln
open Go
variable {w w' : World} {ρ ρ' ρ'' : Own} {rt rt' rt'' : Store} {N : Nat → Nat → Prop}

def posR : List NewR → Nat → Nat → Option Nat
  | [], _, _ => none
  | e :: R, c, k => if e.1 = c ∧ e.2.1 = k then some 0 else (posR R c k).map (· + 1)
theorem posR_get : ∀ {R : List NewR} {c k j : Nat}, posR R c k = some j → ∃ r, R[j]? = some (c, k, r)
  | [], c, k, j, h => by simp [posR] at h
  | e :: R, c, k, j, h => by
    simp only [posR] at h
    split at h
    · rename_i he
      cases h
      obtain ⟨e1, e2, e3⟩ := e
      simp at he
      exact ⟨e3, by simp [he.1, he.2]⟩
    · simp only [Option.map_eq_some_iff] at h
      obtain ⟨j', h', rfl⟩ := h
      obtain ⟨r, hr⟩ := posR_get h'
      exact ⟨r, by simpa using hr⟩
theorem posR_some : ∀ {R : List NewR} {c k j : Nat} {r : Root}, R[j]? = some (c, k, r) → ∃ j', posR R c k = some j'
  | [], c, k, j, r, h => by simp at h
  | e :: R, c, k, j, r, h => by
    simp only [posR]
    split
    · exact ⟨0, rfl⟩
    · cases j with
      | zero => simp at h; subst h; rename_i hn; exact absurd ⟨rfl, rfl⟩ hn
      | succ j =>
        obtain ⟨j', h'⟩ := posR_some (R := R) (c := c) (k := k) (j := j) (r := r) (by simpa using h)
        exact ⟨j' + 1, by rw [h']; rfl⟩

def placeOwn (ρ : Own) (q id : Nat) (R : List NewR) : Own := fun b =>
  match ρ b with
  | some (o, l) => if o = q then (match l with
    | x :: t => (posR R x.1 x.2).map fun j => (id + j, t)
    | [] => none) else some (o, l)
  | none => none
theorem placeOwn_none {q id R b} (h : ρ b = none) : placeOwn ρ q id R b = none := by simp [placeOwn, h]
theorem placeOwn_other {q id R b o l} (h : ρ b = some (o, l)) (hn : o ≠ q) : placeOwn ρ q id R b = some (o, l) := by simp [placeOwn, h, hn]
theorem placeOwn_moved {q id R b c k t j} (h : ρ b = some (q, (c, k) :: t)) (hj : posR R c k = some j) : placeOwn ρ q id R b = some (id + j, t) := by simp [placeOwn, h, hj]
theorem placeOwn_inv {q id R b o l} (h : placeOwn ρ q id R b = some (o, l)) : (ρ b = some (o, l) ∧ o ≠ q) ∨ ∃ c k j, ρ b = some (q, (c, k) :: l) ∧ posR R c k = some j ∧ o = id + j := by
  unfold placeOwn at h
  split at h
  · rename_i o' l' hb
    split at h
    · rename_i hq
      subst hq
      split at h
      · rename_i x t
        simp only [Option.map_eq_some_iff] at h
        obtain ⟨j, hj, h⟩ := h
        cases h
        exact .inr ⟨x.1, x.2, j, hb, hj, rfl⟩
      · cases h
    · rename_i hq
      cases h
      exact .inl ⟨hb, hq⟩
  · cases h

theorem addRoots_low {id o : Nat} {R : List NewR} (h : ¬ (id ≤ o ∧ o < id + R.length)) : addRoots rt id R o = rt o := by unfold addRoots; rw [if_neg h]
theorem addRoots_at {id j : Nat} {R : List NewR} (h : j < R.length) : addRoots rt id R (id + j) = (R[j]?).map fun x => x.2.2 := by
  unfold addRoots
  rw [if_pos (by omega), Nat.add_sub_cancel_left]

structure Placed (N : Nat → Nat → Prop) (w : World) (ρ : Own) (rt : Store) (ρ' : Own) (rt' : Store) (id n : Nat) (ys : List V) (p : Nat → Value) : Prop where
  rok : RtOk w ρ' rt'
  inj : Inj ρ'
  rtn : RtN rt'
  keep : Keep N w ρ rt w ρ' rt'
  lab : Lab w ρ' rt' noU
  val : ∀ (c : Nat) (y : V), ys[c]? = some y → Slot w ρ' rt' nowhere y (p c) ∧ ∀ Un : Nat → Prop, (∀ o, id ≤ o → o < id + n → ¬ Un o) → noNew (NewOf Un rt') y
  nv : ∀ o r', rt' o = some r' → rt o = some r' ∨ (id ≤ o ∧ o < id + n)
  f0 : ∀ b l, ρ' b = some (0, l) → ρ b = some (0, l)

theorem placeAll (H : RtOk w ρ rt) (J : Inj ρ) (hr : RtN rt) {q : Nat} (hL : Lab w ρ rt (fun o _ => o = 0 ∨ o = q)) (hq0 : q ≠ 0) (hq : rt q = none) {id : Nat} {vs : List V} (hid0 : 0 < id) (hf : ∀ o, id ≤ o → o < id + (inst1s id 0 vs).2.length → rt o = none) (hN : ∀ o nv, id ≤ o → o < id + (inst1s id 0 vs).2.length → N o nv) {p : Nat → Value}
    (hv : ∀ (c : Nat) (v : V), vs[c]? = some v → Slot w ρ rt (fun k => some (q, [(c, k)])) v (p c) ∧ nh v) :
    Placed N w ρ rt (placeOwn ρ q id (inst1s id 0 vs).2) (addRoots rt id (inst1s id 0 vs).2) id (inst1s id 0 vs).2.length (inst1s id 0 vs).1 p := by
  obtain ⟨s1, s2, s3, s4⟩ := inst1s_spec (vs := vs) (id := id) (c := 0)
  generalize hys : (inst1s id 0 vs).1 = ys at s1 s3
  generalize hR : (inst1s id 0 vs).2 = R at s2 s3 s4 hf hN
  have pos : ∀ (j c k : Nat) (r : Root), R[j]? = some (c, k, r) → posR R c k = some j := by
    intro j c k r h
    obtain ⟨j', h'⟩ := posR_some h
    obtain ⟨r', h''⟩ := posR_get h'
    rw [h', s4 j' j _ _ h'' h rfl rfl]
  have K : Keep N w ρ rt w (placeOwn ρ q id R) (addRoots rt id R) := by
    refine ⟨fun b hb _ => ⟨placeOwn_none hb, rfl⟩, fun o nv path hNo hl => ?_, fun b l hb => ⟨placeOwn_other hb (Ne.symm hq0), rfl⟩⟩
    have ho : ¬ (id ≤ o ∧ o < id + R.length) := fun h => hNo (hN o nv h.1 h.2)
    have hl' : live rt o nv path := by simpa [live, look, valid, addRoots_low ho] using hl
    refine ⟨hl', fun b n hb hn => ⟨placeOwn_other hb ?_, hn⟩⟩
    rintro rfl
    simp [live, look, valid, hq] at hl'
  have roots : ∀ (j : Nat) (e : NewR), R[j]? = some e → ∃ c k x v, e = (c, k, rootOf x) ∧ ¬ notOwn x ∧ nh x ∧ vs[c]? = some v ∧ (cells v)[k]? = some x ∧ ∃ u, RepV w ρ rt (some (q, [(c, k)])) x u := by
    intro j e he
    obtain ⟨c, v, k, x, h1, h2, h3, h4⟩ := s2 j e he
    rw [Nat.zero_add] at h3
    obtain ⟨⟨g, _, hg⟩, hn⟩ := hv c v h1
    exact ⟨c, k, x, v, h3, h4, nh_cell hn h2, h1, h2, g k, hg k x h2⟩
  refine ⟨?_, ?_, ?_, K, ?_, ?_, ?_, fun b l h => ?_⟩
  rotate_right
  · rcases placeOwn_inv h with ⟨h1, _⟩ | ⟨_, _, _, _, _, h3⟩
    · exact h1
    · omega
  · intro o r h
    by_cases ho : ¬ (id ≤ o ∧ o < id + R.length)
    · rw [addRoots_low ho] at h
      exact RowOk.under K (fun b l hb _ => ⟨placeOwn_other hb (by rintro rfl; rw [hq] at h; cases h), rfl⟩) (H o r h) (hr o r h)
    · obtain ⟨j, rfl⟩ : ∃ j, o = id + j := ⟨o - id, by omega⟩
      rw [addRoots_at (by omega)] at h
      simp only [Option.map_eq_some_iff] at h
      obtain ⟨e, he, rfl⟩ := h
      obtain ⟨c, k, x, v, rfl, h1, h2, _, _, u, hu⟩ := roots j e he
      have hmv : ∀ b l, ρ b = some (q, [(c, k)] ++ l) → placeOwn ρ q id R b = some (id + j, [] ++ l) ∧ w.heap[b]? = w.heap[b]? := fun b l hb => ⟨placeOwn_moved hb (pos j c k _ he), rfl⟩
      rcases own_or x with h | ⟨s, es, rfl⟩ | ⟨e, rfl⟩
      · exact absurd h h1
      · exact RowOk.move K hmv (rowOk_usl hu) (by simpa [rootOf, nh] using h2)
      · exact RowOk.move K hmv (rowOk_uptr hu) (by simpa [rootOf, nh, nhs] using h2)
  · rintro b b' ⟨o, l⟩ h h'
    rcases placeOwn_inv h with ⟨h1, h2⟩ | ⟨c, k, j, h1, h2, h3⟩ <;> rcases placeOwn_inv h' with ⟨h1', h2'⟩ | ⟨c', k', j', h1', h2', h3'⟩
    · exact J _ _ _ h1 h1'
    · exfalso
      rcases (hL b o l h1).2 with (h | h) | ⟨r, h⟩
      · omega
      · exact h2 h
      · obtain ⟨r9, hr9⟩ := posR_get h2'
        have := (List.getElem?_eq_some_iff.1 hr9).1
        rw [hf o (by omega) (by omega)] at h; cases h
    · exfalso
      rcases (hL b' o l h1').2 with (h | h) | ⟨r, h⟩
      · omega
      · exact h2' h
      · obtain ⟨r9, hr9⟩ := posR_get h2
        have := (List.getElem?_eq_some_iff.1 hr9).1
        rw [hf o (by omega) (by omega)] at h; cases h
    · have : j = j' := by omega
      subst this
      obtain ⟨r, hr1⟩ := posR_get h2
      obtain ⟨r', hr2⟩ := posR_get h2'
      rw [hr1] at hr2
      cases hr2
      exact J _ _ _ h1 h1'
  · intro o r h
    by_cases ho : ¬ (id ≤ o ∧ o < id + R.length)
    · rw [addRoots_low ho] at h
      exact hr o r h
    · obtain ⟨j, rfl⟩ : ∃ j, o = id + j := ⟨o - id, by omega⟩
      rw [addRoots_at (by omega)] at h
      simp only [Option.map_eq_some_iff] at h
      obtain ⟨e, he, rfl⟩ := h
      obtain ⟨c, k, x, v, rfl, h1, h2, _⟩ := roots j e he
      rcases own_or x with h | ⟨s, es, rfl⟩ | ⟨e, rfl⟩
      · exact absurd h h1
      · simpa [rootOf, nh] using h2
      · simpa [rootOf, nh, nhs] using h2
  · refine ⟨fun b o l h => ?_, by rw [addRoots_low (by omega)]; exact hL.z, fun b l h => ?_⟩
    rotate_left
    · rcases placeOwn_inv h with ⟨h1, _⟩ | ⟨_, _, _, _, _, h3⟩
      · exact hL.f _ _ h1
      · omega
    rcases placeOwn_inv h with ⟨h1, h2⟩ | ⟨c, k, j, h1, h2, h3⟩
    · refine ⟨(hL b o l h1).1, ?_⟩
      rcases (hL b o l h1).2 with (h | h) | ⟨r, h⟩
      · exact .inl h
      · exact absurd h h2
      · exact .inr ⟨r, by rw [addRoots_low (fun h' => by rw [hf o h'.1 h'.2] at h; cases h)]; exact h⟩
    · obtain ⟨r, hr'⟩ := posR_get h2
      exact ⟨(hL b _ _ h1).1, .inr ⟨r, by rw [h3, addRoots_at (List.getElem?_eq_some_iff.1 hr').1, hr']; rfl⟩⟩
  · intro c y hy
    have hc : c < vs.length := by rw [← s1]; exact (List.getElem?_eq_some_iff.1 hy).1
    have hvc : vs[c]? = some vs[c] := List.getElem?_eq_getElem hc
    obtain ⟨y', e1, e2, e3, e4⟩ := s3 c _ hvc
    rw [hy] at e1
    cases e1
    obtain ⟨⟨g, hp, hg⟩, hn⟩ := hv c _ hvc
    have hx : ∀ (k : Nat) z, (cells y)[k]? = some z → ∃ x, (cells vs[c])[k]? = some x := fun k z hz => by
      have := (List.getElem?_eq_some_iff.1 hz).1
      exact ⟨_, List.getElem?_eq_getElem (by omega)⟩
    have each : ∀ (k : Nat) z, (cells y)[k]? = some z → RepV w (placeOwn ρ q id R) (addRoots rt id R) none z (g k) ∧ ∀ Un : Nat → Prop, (∀ o, id ≤ o → o < id + R.length → ¬ Un o) → noNew (NewOf Un (addRoots rt id R)) z := by
      intro k z hz
      obtain ⟨x, hx⟩ := hx k z hz
      have hxn := nh_cell hn hx
      have hxr := hg k x hx
      rcases e4 k x hx with ⟨h1, h2⟩ | ⟨h1, j, hj, h2⟩
      · rw [hz] at h2
        cases h2
        exact ⟨(hxr.any h1 (L' := none)).keep K (nh_noNew hxn), fun _ _ => nh_noNew hxn⟩
      · rw [hz] at h2
        cases h2
        rw [Nat.zero_add] at hj
        have hjl := (List.getElem?_eq_some_iff.1 hj).1
        have hpos := pos j c k _ hj
        have nn : ∀ Un : Nat → Prop, (∀ o, id ≤ o → o < id + R.length → ¬ Un o) → ¬ NewOf Un (addRoots rt id R) (id + j) 0 := by
          rintro Un hUn (h | ⟨r, h, h'⟩)
          · exact hUn _ (by omega) (by omega) h
          · omega
        rcases own_or x with h | ⟨s, es, rfl⟩ | ⟨e, rfl⟩
        · exact absurd h h1
        · refine ⟨?_, by simpa [handleOf, noNew] using nn⟩
          obtain ⟨A, cc, g2, hu, hlc, hs, hb, _⟩ := usl_parts hxr
          rw [hu]
          refine .hs _ _ _ _ _ _ _ _ (fun _ => ⟨cc, A, rfl, hlc, fun h0 => ?_⟩) trivial
          obtain ⟨b, arr, T, q1, q2, q3, q4, _⟩ := hb h0
          exact ⟨b, arr.size, placeOwn_moved q1 hpos, ⟨arr, T, q2, rfl⟩, by rw [q3]; simp, by simpa using q4⟩
        · refine ⟨?_, by simpa [handleOf, noNew] using nn⟩
          generalize g k = u at hxr
          cases hxr with
          | uptr _ _ b arr T g2 hρ hb hc hh =>
            exact .hp _ _ _ _ _ _ _ _ (fun _ => ⟨b, arr.size, placeOwn_moved hρ hpos, ⟨arr, T, hb, rfl⟩, by simp⟩) trivial
    refine ⟨⟨g, ?_, fun k z hz => (each k z hz).1⟩, ?_⟩
    · rw [hp]
      unfold pack
      rw [e2, e3]
    · by_cases ha : isAggV y = true
      · cases y <;> simp [isAggV] at ha
        intro Un hUn
        simp only [noNew]
        refine noNews_iff.2 fun z hz => ?_
        obtain ⟨k, hk⟩ := List.mem_iff_getElem?.1 hz
        exact (each k z hk).2 Un hUn
      · have ha' : isAggV y = false := by simpa using ha
        exact (each 0 y (by simp [cells_one ha'])).2
  · intro o r h
    by_cases ho : ¬ (id ≤ o ∧ o < id + R.length)
    · rw [addRoots_low ho] at h
      exact .inl h
    · obtain ⟨j, rfl⟩ : ∃ j, o = id + j := ⟨o - id, by omega⟩
      rw [addRoots_at (by omega)] at h
      simp only [Option.map_eq_some_iff] at h
      obtain ⟨e, he, rfl⟩ := h
      have := (List.getElem?_eq_some_iff.1 he).1
      exact .inr ⟨by omega, by omega⟩
end Go.Ln
/- A function's contract by value. -/
set_option linter.unusedVariables false
set_option linter.unusedSimpArgs false
set_option linter.unusedSectionVars false
namespace Go.Ln
open Go
variable {w w' : World} {ρ ρ' ρ'' : Own} {rt rt' rt'' : Store} {N : Nat → Nat → Prop}

def rt0 : Store := fun _ => none

/-- What a program leans on in the world: laid blocks at the bottom. -/
structure Ground where
  base : Nat
  inv : World → Prop
  st : ∀ w w', (∀ b, b < base → w'.heap[b]? = w.heap[b]?) → Wk w w' → inv w → inv w'
def Ground.ok (G : Ground) (w : World) (ρ : Own) : Prop := G.base ≤ w.heap.size ∧ (∀ b, b < G.base → ρ b = none) ∧ G.inv w

theorem Ground.keep {G : Ground} (h : G.ok w ρ) (hf : ∀ b, ρ b = none → b < w.heap.size → ρ' b = none ∧ w'.heap[b]? = w.heap[b]?) (hw : Wk w w') : G.ok w' ρ' :=
  ⟨Nat.le_trans h.1 hw.size, fun b hb => (hf b (h.2.1 b hb) (Nat.lt_of_lt_of_le hb h.1)).1, G.st w w' (fun b hb => (hf b (h.2.1 b hb) (Nat.lt_of_lt_of_le hb h.1)).2) hw h.2.2⟩

/-- The labels at the beginning of a call: 0 for what is another's, 1 for what comes with the arguments. -/
structure Inn (w : World) (ρ : Own) : Prop where
  inj : Inj ρ
  lab : ∀ b o l, ρ b = some (o, l) → b < w.heap.size ∧ (o = 0 ∨ o = 1)
  f : ∀ b l, ρ b = some (0, l) → l = [(b, 0)]

/-- At its end: 2 for the results. -/
structure Aft (w : World) (ρ : Own) (w' : World) (ρ' : Own) : Prop where
  wk : Wk w w'
  fr : ∀ b, ρ b = none → b < w.heap.size → ρ' b = none ∧ w'.heap[b]? = w.heap[b]?
  k0 : ∀ b l, ρ b = some (0, l) → ρ' b = some (0, l) ∧ w'.heap[b]? = w.heap[b]?
  f0 : ∀ b l, ρ' b = some (0, l) → ρ b = some (0, l)
  inj : Inj ρ'
  lab : ∀ b o l, ρ' b = some (o, l) → b < w'.heap.size ∧ (o = 0 ∨ o = 1 ∨ o = 2)

def ArgsOk (w : World) (ρ : Own) (vs : List V) (us : List Value) : Prop :=
  vs.length = us.length ∧ ∀ (a : Nat) v u, vs[a]? = some v → us[a]? = some u → Slot w ρ rt0 (fun k => some (1, [(a, k)])) v u ∧ nh v

def isTup : V → Bool
  | .tup _ => true
  | _ => false
def ResOk (w : World) (ρ : Own) (r : V) (u : Value) : Prop :=
  ∃ p : Nat → Value, u = (if isTup r then .tuple (arrOf (comps r).length p) else p 0) ∧ ∀ (c : Nat) v, (comps r)[c]? = some v → Slot w ρ rt0 (fun k => some (2, [(c, k)])) v (p c) ∧ nh v ∧ isTup v = false

def OutsOk (w : World) (ρ : Own) (w' : World) (ρ' : Own) (own : List Bool) (vs : List V) (us : List Value) (outs : List V) : Prop :=
  ∀ (a : Nat) v u x, vs[a]? = some v → us[a]? = some u → outAt own outs a = some x →
    ∀ (g : Nat → Value), u = pack v g → ∀ (k : Nat) y z, (cells x)[k]? = some y → (cells v)[k]? = some z → ¬ notOwn y → nh y ∧ RepV w' ρ' rt0 (some (1, [(a, k)])) y (g k) ∧ ∀ b n, ρ b = some (1, [(a, k)]) → Blk w b n → ρ' b = some (1, [(a, k)])

def Runs (P : Program) (f : FuncId) (us : Array Value) (w : World) (K : Value → World → Prop) : Prop :=
  (∃ u w', (callFunc f us).run P w = .ok (.value u) w' ∧ K u w') ∨
  ((callFunc f us).run P w = .ok (.enter f us) w ∧ Calls P f us w fun e w' => ∃ u, e = .returned u ∧ K u w')

def Good (P : Program) (G : Ground) (f : FuncId) (e : Ent) : Prop := ∀ w ρ vs us r outs, ArgsOk w ρ vs us → Inn w ρ → G.ok w ρ → e.F vs = some (r, outs) →
  Runs P f us.toArray w fun u w' => ∃ ρ', Aft w ρ w' ρ' ∧ ResOk w' ρ' r u ∧ OutsOk w ρ w' ρ' e.own vs us outs

/-! ### what is given away -/
def hid : V → Option Nat
  | .hs o _ _ _ _ _ => some o
  | .hp o _ _ _ _ _ => some o
  | _ => none
def hpath : V → Path
  | .hs _ _ p _ _ _ => p
  | .hp _ _ p _ _ _ => p
  | _ => []

theorem givenC_mem {a : Nat} : ∀ {vs : List V} {k0 : Nat} {e : Giv}, e ∈ givenC a k0 vs ↔ ∃ k x, vs[k]? = some x ∧ hid x = some e.1 ∧ e.2 = (hpath x, a, k0 + k)
  | [], k0, e => by simp [givenC]
  | v :: vs, k0, e => by
    have ih := @givenC_mem a vs (k0 + 1) e
    have tail : (∃ k x, vs[k]? = some x ∧ hid x = some e.1 ∧ e.2 = (hpath x, a, k0 + 1 + k)) ↔ ∃ k x, (v :: vs)[k + 1]? = some x ∧ hid x = some e.1 ∧ e.2 = (hpath x, a, k0 + (k + 1)) := by
      constructor
      · rintro ⟨k, x, h1, h2, h3⟩
        exact ⟨k, x, by simpa using h1, h2, by rw [h3]; congr 2; omega⟩
      · rintro ⟨k, x, h1, h2, h3⟩
        exact ⟨k, x, by simpa using h1, h2, by rw [h3]; congr 2; omega⟩
    have hsplit : (∃ k x, (v :: vs)[k]? = some x ∧ hid x = some e.1 ∧ e.2 = (hpath x, a, k0 + k)) ↔ (hid v = some e.1 ∧ e.2 = (hpath v, a, k0)) ∨ ∃ k x, (v :: vs)[k + 1]? = some x ∧ hid x = some e.1 ∧ e.2 = (hpath x, a, k0 + (k + 1)) := by
      constructor
      · rintro ⟨k, x, h1, h2, h3⟩
        cases k with
        | zero => simp at h1; subst h1; exact .inl ⟨h2, by simpa using h3⟩
        | succ k => exact .inr ⟨k, x, h1, h2, h3⟩
      · rintro (⟨h1, h2⟩ | ⟨k, x, h1, h2, h3⟩)
        · exact ⟨0, v, by simp, h1, by simpa using h2⟩
        · exact ⟨k + 1, x, h1, h2, h3⟩
    rw [hsplit, ← tail, ← ih]
    cases v <;> simp only [givenC, hid, hpath, List.mem_cons] <;> first
      | (obtain ⟨e1, e2⟩ := e
         simp
         done)
      | (obtain ⟨e1, e2⟩ := e
         constructor
         · rintro (h | h)
           · cases h; exact .inl ⟨rfl, rfl⟩
           · exact .inr h
         · rintro (⟨h1, h2⟩ | h)
           · cases h1; cases h2; exact .inl rfl
           · exact .inr h)

theorem givenOf_mem : ∀ {own : List Bool} {vs : List V} {a0 : Nat} {e : Giv}, e ∈ givenOf a0 own vs ↔ ∃ a v k x, own[a]? = some true ∧ vs[a]? = some v ∧ (cells v)[k]? = some x ∧ hid x = some e.1 ∧ e.2 = (hpath x, a0 + a, k)
  | [], vs, a0, e => by simp [givenOf]
  | b :: own, [], a0, e => by cases b <;> simp [givenOf]
  | true :: own, v :: vs, a0, e => by
    simp only [givenOf, List.mem_append]
    rw [givenC_mem, givenOf_mem (own := own)]
    constructor
    · rintro (⟨k, x, h1, h2, h3⟩ | ⟨a, v', k, x, h1, h2, h3, h4, h5⟩)
      · exact ⟨0, v, k, x, by simp, by simp, h1, h2, by simpa using h3⟩
      · exact ⟨a + 1, v', k, x, by simpa using h1, by simpa using h2, h3, h4, by rw [h5]; congr 2; omega⟩
    · rintro ⟨a, v', k, x, h1, h2, h3, h4, h5⟩
      cases a with
      | zero => simp at h2; subst h2; exact .inl ⟨k, x, h3, h4, by simpa using h5⟩
      | succ a => exact .inr ⟨a, v', k, x, by simpa using h1, by simpa using h2, h3, h4, by rw [h5]; congr 2; omega⟩
  | false :: own, v :: vs, a0, e => by
    simp only [givenOf]
    rw [givenOf_mem (own := own)]
    constructor
    · rintro ⟨a, v', k, x, h1, h2, h3, h4, h5⟩
      exact ⟨a + 1, v', k, x, by simpa using h1, by simpa using h2, h3, h4, by rw [h5]; congr 2; omega⟩
    · rintro ⟨a, v', k, x, h1, h2, h3, h4, h5⟩
      cases a with
      | zero => simp at h1
      | succ a => exact ⟨a, v', k, x, by simpa using h1, by simpa using h2, h3, h4, by rw [h5]; congr 2; omega⟩

theorem lentOf_mem : ∀ {own : List Bool} {vs : List V} {o : Nat}, (∃ (a : Nat) (v : V), own[a]? ≠ some true ∧ vs[a]? = some v ∧ o ∈ ids v) → o ∈ lentOf own vs
  | own, [], o, ⟨a, v, h1, h2, h3⟩ => by simp at h2
  | [], v :: vs, o, ⟨a, v', h1, h2, h3⟩ => by
    simp only [lentOf, List.mem_append]
    cases a with
    | zero => simp at h2; subst h2; exact .inl h3
    | succ a => exact .inr (lentOf_mem (own := []) ⟨a, v', by simp, by simpa using h2, h3⟩)
  | true :: own, v :: vs, o, ⟨a, v', h1, h2, h3⟩ => by
    simp only [lentOf]
    cases a with
    | zero => simp at h1
    | succ a => exact lentOf_mem ⟨a, v', by simpa using h1, by simpa using h2, h3⟩
  | false :: own, v :: vs, o, ⟨a, v', h1, h2, h3⟩ => by
    simp only [lentOf, List.mem_append]
    cases a with
    | zero => simp at h2; subst h2; exact .inl h3
    | succ a => exact .inr (lentOf_mem ⟨a, v', by simpa using h1, by simpa using h2, h3⟩)

theorem lookG_mem : ∀ {g : List Giv} {o : Nat} {x : Path × Nat × Nat}, lookG g o = some x → (o, x) ∈ g
  | [], o, x, h => by simp [lookG] at h
  | (o', y) :: g, o, x, h => by
    simp only [lookG] at h
    split at h
    · rename_i he; cases h; subst he; simp
    · exact List.mem_cons_of_mem _ (lookG_mem h)
theorem lookG_some : ∀ {g : List Giv} {o : Nat} {x : Path × Nat × Nat}, nodupN (g.map (·.1)) = true → (o, x) ∈ g → lookG g o = some x
  | [], o, x, h, hm => by simp at hm
  | (o', y) :: g, o, x, h, hm => by
    simp only [List.map_cons, nodupN, Bool.and_eq_true, Bool.not_eq_true'] at h
    simp only [lookG]
    rcases List.mem_cons.1 hm with hm' | hm'
    · cases hm'; simp
    · have hne : o ≠ o' := by
        rintro rfl
        have h1 := h.1
        have : o ∈ g.map (·.1) := List.mem_map.2 ⟨(o, x), hm', rfl⟩
        simp only [List.contains_eq_mem, decide_eq_false_iff_not] at h1
        exact h1 this
      rw [if_neg hne]
      exact lookG_some h.2 hm'
theorem lookG_none {g : List Giv} {o : Nat} (h : o ∉ g.map (·.1)) : lookG g o = none := by
  cases hl : lookG g o with
  | none => rfl
  | some x => exact absurd ((List.mem_map (f := fun x => x.1)).2 ⟨(o, x), lookG_mem hl, rfl⟩) h
end Go.Ln
/- A call: what the callee is handed. -/
set_option linter.unusedVariables false
set_option linter.unusedSimpArgs false
set_option linter.unusedSectionVars false
namespace Go.Ln
open Go
variable {w w' : World} {ρ ρ' ρ'' : Own} {rt rt' rt'' : Store} {N : Nat → Nat → Prop}

/-- A reading without any memory that stays lasts wherever its own blocks do. -/
theorem RepV.monoN (mv : Loc → Loc) (ok : Loc → Prop) (hmv : ∀ l i k, ok l → mv (l.at i k) = (mv l).at i k) (hok : ∀ l i k, ok l → ok (l.at i k))
    (K3 : ∀ b l, ok l → ρ b = some l → ρ' b = some (mv l) ∧ w'.heap[b]? = w.heap[b]?)
    {L : Option Loc} {v : V} {u : Value} (h : RepV w ρ rt L v u) : (∀ l, L = some l → ok l) → nh v → hasImm v = false → RepV w' ρ' rt' (L.map mv) v u := by
  have hms : ∀ {vs : List V} {i : Nat} {v : V}, hasImms vs = false → vs[i]? = some v → hasImm v = false := by
    intro vs
    induction vs with
    | nil => intro i v _ h; simp at h
    | cons x vs ih =>
      intro i v h e
      simp only [hasImms, Bool.or_eq_false_iff] at h
      cases i with
      | zero => simp at e; subst e; exact h.1
      | succ i => exact ih h.2 (by simpa using e)
  have hcl : ∀ {v x : V} {k : Nat}, hasImm v = false → (cells v)[k]? = some x → hasImm x = false := by
    intro v x k h e
    by_cases ha : isAggV v = true
    · cases v <;> simp [isAggV] at ha
      exact hms (by simpa [hasImm, cells] using h) e
    · rw [cells_one (by simpa using ha)] at e
      cases k <;> simp at e
      subst e
      exact h
  induction h with
  | und L => exact fun _ _ _ => .und _
  | dead L u => exact fun _ _ _ => .dead _ _
  | bool L b => exact fun _ _ _ => .bool _ _
  | int L k n => exact fun _ _ _ => .int _ _ _
  | str L s => exact fun _ _ _ => .str _ _
  | nilp L => exact fun _ _ _ => .nilp _
  | nilfn L => exact fun _ _ _ => .nilfn _
  | nilif L => exact fun _ _ _ => .nilif _
  | fn L f caps g h ih => exact fun _ hn hi => .fn _ _ _ g fun i v hv => ih i v hv (by simp) (nhs_get (by simpa [nh] using hn) hv) (hms (by simpa [hasImm] using hi) hv)
  | iface L t v g h ih => exact fun _ hn hi => .iface _ _ _ g fun i x hx => ih i x hx (by simp) (nh_cell (by simpa [nh] using hn) hx) (hcl (by simpa [hasImm] using hi) hx)
  | tup L vs p g hp h ih => exact fun _ hn hi => .tup _ _ p g hp fun c v k x hv hx => ih c v k x hv hx (by simp) (nh_cell (nhs_get (by simpa [nh] using hn) hv) hx) (hcl (hms (by simpa [hasImm] using hi) hv) hx)
  | iptr L e k b off g hb hρ hc h ih => exact fun _ _ hi => by simp [hasImm] at hi
  | isl0 L nl A c hn => exact fun _ _ _ => .isl0 _ _ _ _ hn
  | isl L es b off c s g hl h0 hρ hb hs hc h ih => exact fun _ _ hi => by simp [hasImm] at hi; subst hi; simp at h0
  | usl0 l s A => exact fun _ _ _ => .usl0 _ _ _
  | usl l s es b A c arr T g hρ hb hl hA hcap hs hc h ih =>
    intro ho hn hi
    have k := K3 b l (ho l rfl) hρ
    exact .usl _ s es b A c arr T g k.1 (by rw [k.2]; exact hb) hl hA hcap hs hc fun i e k x he hx => by
      have := ih i e k x he hx (fun l' h' => by cases h'; exact hok _ _ _ (ho l rfl)) (nh_cell (nhs_get (by simpa [nh] using hn) he) hx) (hcl (hms (by simpa [hasImm] using hi) he) hx)
      rwa [Option.map_some, hmv _ _ _ (ho l rfl)] at this
  | uptr l e b arr T g hρ hb hc h ih =>
    intro ho hn hi
    have k := K3 b l (ho l rfl) hρ
    exact .uptr _ e b arr T g k.1 (by rw [k.2]; exact hb) hc fun k x hx => by
      have := ih k x hx (fun l' h' => by cases h'; exact hok _ _ _ (ho l rfl)) (nh_cell (by simpa [nh] using hn) hx) (hcl (by simpa [hasImm] using hi) hx)
      rwa [Option.map_some, hmv _ _ _ (ho l rfl)] at this
  | hp L o nv path s i k u h h1' => exact fun _ hn _ => by simp [nh] at hn
  | hs L o nv path s off len u h h1' => exact fun _ hn _ => by simp [nh] at hn

theorem usl_of_row (J : Inj ρ) {L : Loc} {s c : Nat} {es : List V} {A : Option Addr} (h : RowOk w ρ rt L s es) (hlc : es.length ≤ c) (hcc : c ≠ 0 → ∃ b n, ρ b = some L ∧ Blk w b n ∧ A = some ⟨b, 0, none⟩ ∧ c * s ≤ n) : RepV w ρ rt (some L) (.usl s es) (.slice A es.length c) := by
  by_cases hc0 : c = 0
  · subst hc0
    have : es = [] := List.length_eq_zero_iff.1 (by omega)
    subst this
    exact .usl0 _ _ _
  · obtain ⟨b, n, hb, ⟨arr, T, hbb, rfl⟩, rfl, hle⟩ := hcc hc0
    rcases h with rfl | ⟨b2, arr2, T2, g2, i1, i2, i3, i4, i5⟩
    · exact .usl _ s [] b _ c arr T (fun _ _ => undef) hb hbb hlc (fun _ => rfl) hle (by simp) (by simp) (by simp)
    · have := J _ _ _ hb i1
      subst this
      rw [hbb] at i2
      cases i2
      exact .usl _ _ _ b _ c arr T g2 hb hbb hlc (fun _ => rfl) hle i3 i4 i5

theorem uptr_of_row (J : Inj ρ) {L : Loc} {s b : Nat} {e : V} (h : RowOk w ρ rt L s [e]) (hb : ρ b = some L) : RepV w ρ rt (some L) (.uptr e) (.pointer (some ⟨b, 0, none⟩)) := by
  rcases h with h | ⟨b2, arr2, T2, g2, i1, i2, i3, i4, i5⟩
  · cases h
  · have := J _ _ _ hb i1
    subst this
    exact .uptr _ e b arr2 T2 (g2 0) hb i2 (fun k x hx => by simpa using i4 0 e k x rfl hx) (fun k x hx => i5 0 e k x rfl hx)

theorem handC_one {cc d : V} (h : handC rt cc = some d) (hc : isAggV cc = false) : isAggV d = false := by
  unfold handC at h
  split at h
  · simp only [Option.bind_eq_some_iff] at h
    obtain ⟨r, _, x, _, h⟩ := h
    split at h <;> cases h
    rfl
  · simp only [Option.bind_eq_some_iff] at h
    obtain ⟨r, _, x, _, h⟩ := h
    split at h
    · split at h <;> cases h
      rfl
    · cases h
  · split at h <;> cases h
    exact hc
theorem handCs_get : ∀ {vs xs : List V}, handCs rt vs = some xs → xs.length = vs.length ∧ ∀ (k : Nat) c, vs[k]? = some c → ∃ d, xs[k]? = some d ∧ handC rt c = some d
  | [], xs, h => by simp [handCs] at h; subst h; simp
  | v :: vs, xs, h => by
    simp only [handCs, Option.bind_eq_some_iff, Option.map_eq_some_iff] at h
    obtain ⟨x, hx, ys, hys, rfl⟩ := h
    obtain ⟨l, ih⟩ := handCs_get hys
    refine ⟨by simp [l], fun k c hc => ?_⟩
    cases k with
    | zero => simp at hc; subst hc; exact ⟨x, by simp, hx⟩
    | succ k => simpa using ih k c (by simpa using hc)
theorem shares_get : ∀ {vs xs : List V}, shares rt vs = some xs → xs.length = vs.length ∧ ∀ (k : Nat) c, vs[k]? = some c → ∃ d, xs[k]? = some d ∧ share rt c = some d
  | [], xs, h => by simp [shares] at h; subst h; simp
  | v :: vs, xs, h => by
    simp only [shares, Option.bind_eq_some_iff, Option.map_eq_some_iff] at h
    obtain ⟨x, hx, ys, hys, rfl⟩ := h
    obtain ⟨l, ih⟩ := shares_get hys
    refine ⟨by simp [l], fun k c hc => ?_⟩
    cases k with
    | zero => simp at hc; subst hc; exact ⟨x, by simp, hx⟩
    | succ k => simpa using ih k c (by simpa using hc)
theorem argsV_get : ∀ {own : List Bool} {vs xs : List V}, argsV rt own vs = some xs → xs.length = vs.length ∧ ∀ (a : Nat) v, vs[a]? = some v → ∃ x, xs[a]? = some x ∧ ((own[a]? = some true ∧ hand rt v = some x) ∨ (own[a]? ≠ some true ∧ share1 rt v = some x))
  | own, [], xs, h => by simp [argsV] at h; subst h; simp
  | own, v :: vs, xs, h => by
    have step : ∀ (own' : List Bool) (x : V) (ys : List V), argsV rt own' vs = some ys → xs = x :: ys → (∀ a, own[a + 1]? = own'[a]?) → ((own[0]? = some true ∧ hand rt v = some x) ∨ (own[0]? ≠ some true ∧ share1 rt v = some x)) →
        xs.length = (v :: vs).length ∧ ∀ (a : Nat) v', (v :: vs)[a]? = some v' → ∃ x, xs[a]? = some x ∧ ((own[a]? = some true ∧ hand rt v' = some x) ∨ (own[a]? ≠ some true ∧ share1 rt v' = some x)) := by
      intro own' x ys h1 h2 h3 h4
      subst h2
      obtain ⟨l, ih⟩ := argsV_get h1
      refine ⟨by simp [l], fun a v' hv => ?_⟩
      cases a with
      | zero => simp at hv; subst hv; exact ⟨x, by simp, h4⟩
      | succ a =>
        obtain ⟨y, e1, e2⟩ := ih a v' (by simpa using hv)
        refine ⟨y, by simpa using e1, ?_⟩
        rw [h3]
        exact e2
    match own, h, step with
    | true :: bs, h, step =>
      simp only [argsV, Option.bind_eq_some_iff, Option.map_eq_some_iff] at h
      obtain ⟨x, hx, ys, hys, rfl⟩ := h
      exact step bs x ys hys rfl (by simp) (.inl ⟨by simp, hx⟩)
    | false :: bs, h, step =>
      simp only [argsV, Option.bind_eq_some_iff, Option.map_eq_some_iff] at h
      obtain ⟨x, hx, ys, hys, rfl⟩ := h
      exact step bs x ys hys rfl (by simp) (.inr ⟨by simp, hx⟩)
    | [], h, step =>
      simp only [argsV, Option.bind_eq_some_iff, Option.map_eq_some_iff] at h
      obtain ⟨x, hx, ys, hys, rfl⟩ := h
      exact step [] x ys hys rfl (by simp) (.inr ⟨by simp, hx⟩)

def strip : Path → Path → Option Path
  | [], l => some l
  | x :: p, y :: l => if x = y then strip p l else none
  | _ :: _, [] => none
theorem strip_iff : ∀ {p l t : Path}, strip p l = some t ↔ l = p ++ t
  | [], l, t => by simp [strip]
  | x :: p, [], t => by simp [strip]
  | x :: p, y :: l, t => by
    simp only [strip, List.cons_append, List.cons.injEq]
    split
    · rename_i h; subst h; rw [strip_iff]; simp
    · rename_i h; exact ⟨fun h' => (by cases h'), fun h' => absurd h'.1.symm h⟩
theorem strip_none {p l : Path} : strip p l = none ↔ ¬ p <+: l := by
  constructor
  · rintro h ⟨t, ht⟩
    rw [strip_iff.2 ht.symm] at h
    cases h
  · intro h
    cases hs : strip p l with
    | none => rfl
    | some t => exact absurd ⟨t, (strip_iff.1 hs).symm⟩ h
/-- The memory as the callee sees it. -/
def callOwn (ρ : Own) (g : List Giv) (lent : List Nat) : Own := fun b =>
  match ρ b with
  | none => none
  | some (o, l) => match lookG g o with
    | some (p, a, k) => (match strip p l with
      | some t => some (1, (a, k) :: t)
      | none => some (0, [(b, 0)]))
    | none => if lent.contains o then none else some (0, [(b, 0)])
theorem callOwn_none {g lent b} (h : ρ b = none) : callOwn ρ g lent b = none := by simp [callOwn, h]
theorem callOwn_given {g lent b o p t a k} (h : ρ b = some (o, p ++ t)) (hg : lookG g o = some (p, a, k)) : callOwn ρ g lent b = some (1, (a, k) :: t) := by simp [callOwn, h, hg, strip_iff.2 rfl]
theorem callOwn_part {g lent b o p l a k} (h : ρ b = some (o, l)) (hg : lookG g o = some (p, a, k)) (hp : ¬ p <+: l) : callOwn ρ g lent b = some (0, [(b, 0)]) := by simp [callOwn, h, hg, strip_none.2 hp]
theorem callOwn_lent {g lent b o l} (h : ρ b = some (o, l)) (hg : lookG g o = none) (hl : o ∈ lent) : callOwn ρ g lent b = none := by simp [callOwn, h, hg, hl]
theorem callOwn_far {g lent b o l} (h : ρ b = some (o, l)) (hg : lookG g o = none) (hl : o ∉ lent) : callOwn ρ g lent b = some (0, [(b, 0)]) := by simp [callOwn, h, hg, hl]

/-- The checks at a call. -/
structure CallChk (own : List Bool) (args : List V) : Prop where
  nd : nodupN ((givenOf 0 own args).map (·.1)) = true
  z : 0 ∉ (givenOf 0 own args).map (·.1)
  dis : ∀ o, o ∈ lentOf own args → o ∉ (givenOf 0 own args).map (·.1)
  z' : 0 ∉ lentOf own args

theorem callChk {own : List Bool} {args : List V} (h : (nodupN (0 :: (givenOf 0 own args).map (·.1)) && (lentOf own args).all (fun o => !(0 :: (givenOf 0 own args).map (·.1)).contains o)) = true) : CallChk own args := by
  simp only [nodupN, Bool.and_eq_true, Bool.not_eq_true', List.contains_eq_mem, decide_eq_false_iff_not, List.all_eq_true, List.mem_cons, not_or] at h
  exact ⟨h.1.2, h.1.1, fun o ho => (h.2 o ho).2, fun ho => (h.2 0 ho).1 rfl⟩

theorem given_look {own : List Bool} {args : List V} (c : CallChk own args) {o a k : Nat} {p : Path} : lookG (givenOf 0 own args) o = some (p, a, k) ↔ ∃ v x, own[a]? = some true ∧ args[a]? = some v ∧ (cells v)[k]? = some x ∧ hid x = some o ∧ p = hpath x := by
  constructor
  · intro h
    obtain ⟨a', v, k', x, h1, h2, h3, h4, h5⟩ := givenOf_mem.1 (lookG_mem h)
    rw [Nat.zero_add] at h5
    cases h5
    exact ⟨v, x, h1, h2, h3, h4, rfl⟩
  · rintro ⟨v, x, h1, h2, h3, h4, rfl⟩
    exact lookG_some c.nd (givenOf_mem.2 ⟨a, v, k, x, h1, h2, h3, h4, by rw [Nat.zero_add]⟩)

theorem callOwn_inn (J : Inj ρ) {U : Pl} (hL : Lab w ρ rt U) {own : List Bool} {args : List V} (c : CallChk own args) : Inn w (callOwn ρ (givenOf 0 own args) (lentOf own args)) := by
  have inv : ∀ b L, callOwn ρ (givenOf 0 own args) (lentOf own args) b = some L → (∃ o p t a k, ρ b = some (o, p ++ t) ∧ lookG (givenOf 0 own args) o = some (p, a, k) ∧ L = (1, (a, k) :: t)) ∨ (∃ o l, ρ b = some (o, l) ∧ L = (0, [(b, 0)])) := by
    intro b L h
    unfold callOwn at h
    split at h
    · cases h
    · rename_i o l hb
      split at h
      · rename_i p a k hg
        split at h
        · rename_i t ht
          cases h
          exact .inl ⟨o, p, t, a, k, by rw [hb, strip_iff.1 ht], hg, rfl⟩
        · cases h
          exact .inr ⟨o, l, hb, rfl⟩
      · split at h
        · cases h
        · cases h
          exact .inr ⟨o, l, hb, rfl⟩
  refine ⟨?_, ?_, ?_⟩
  · intro b b' L h h'
    rcases inv b L h with ⟨o, p, l, a, k, h1, h2, rfl⟩ | ⟨o, l, h1, rfl⟩ <;> rcases inv b' _ h' with ⟨o', p', l', a', k', h1', h2', h3⟩ | ⟨o', l', h1', h3⟩
    · cases h3
      obtain ⟨v, x, e1, e2, e3, e4, e5⟩ := (given_look c).1 h2
      obtain ⟨v', x', e1', e2', e3', e4', e5'⟩ := (given_look c).1 h2'
      rw [e2] at e2'
      cases e2'
      rw [e3] at e3'
      cases e3'
      rw [e4] at e4'
      cases e4'
      rw [← e5] at e5'
      subst e5'
      exact J _ _ _ h1 h1'
    · cases h3
    · cases h3
    · cases h3; rfl
  · intro b o l h
    rcases inv b _ h with ⟨o', p', l', a, k, h1, h2, h3⟩ | ⟨o', l', h1, h3⟩
    · cases h3; exact ⟨(hL _ _ _ h1).1, .inr rfl⟩
    · cases h3; exact ⟨(hL _ _ _ h1).1, .inl rfl⟩
  · intro b l h
    rcases inv b _ h with ⟨o', p', l', a, k, h1, h2, h3⟩ | ⟨o', l', h1, h3⟩
    · cases h3
    · cases h3; rfl

theorem callOwn_keep {U : Pl} (hL : Lab w ρ rt U) {own : List Bool} {args : List V} (c : CallChk own args) : Keep N w ρ rt w (callOwn ρ (givenOf 0 own args) (lentOf own args)) rt0 := by
  refine ⟨fun b hb _ => ⟨callOwn_none hb, rfl⟩, fun o nv p _ hl => ?_, fun b l hb => ⟨?_, rfl⟩⟩
  · simp [live, look, valid, rt0] at hl
  · rw [hL.f _ _ hb] at *
    exact callOwn_far hb (lookG_none c.z) c.z'

/-- The arguments as the callee is handed them. -/
theorem callArgs (H : RtOk w ρ rt) (J : Inj ρ) (hr : RtN rt) {U : Pl} (hL : Lab w ρ rt U) {own : List Bool} {args xs : List V} {us : List Value} (c : CallChk own args) (hlen : args.length = us.length)
    (hv : ∀ (a : Nat) v u, args[a]? = some v → us[a]? = some u → Slot w ρ rt nowhere v u ∧ noNew N v) (h : argsV rt own args = some xs) : ArgsOk w (callOwn ρ (givenOf 0 own args) (lentOf own args)) xs us := by
  obtain ⟨l, hx⟩ := argsV_get h
  have K := callOwn_keep (N := N) (rt := rt) hL c
  have I := callOwn_inn J hL c
  refine ⟨by omega, fun a x u hxa hua => ?_⟩
  have hal := (List.getElem?_eq_some_iff.1 hxa).1
  obtain ⟨v, hva⟩ : ∃ v, args[a]? = some v := ⟨_, List.getElem?_eq_getElem (by omega)⟩
  obtain ⟨x', e1, e2⟩ := hx a v hva
  rw [hxa] at e1
  cases e1
  obtain ⟨⟨g, hp, hg⟩, hn⟩ := hv a v u hva hua
  have shareCell : own[a]? ≠ some true → ∀ (k : Nat) cc d, (cells v)[k]? = some cc → share rt cc = some d → RepV w (callOwn ρ (givenOf 0 own args) (lentOf own args)) rt0 none d (g k) ∧ nh d := by
    intro ho k cc d hc hd
    refine share_ok H J hr K hd (hg k cc hc) (noNew_cell hn hc) fun b o l ho' hb => ?_
    have hin : o ∈ lentOf own args := lentOf_mem ⟨a, v, ho, hva, ?_⟩
    · exact ⟨callOwn_lent hb (lookG_none (c.dis o hin)) hin, (hL _ _ _ hb).1⟩
    · by_cases ha : isAggV v = true
      · cases v <;> simp [isAggV] at ha
        rename_i cs
        simp only [ids]
        have : ∀ {cs : List V} {k : Nat} {cc : V}, cs[k]? = some cc → o ∈ ids cc → o ∈ idss cs := by
          intro cs
          induction cs with
          | nil => intro k cc h; simp at h
          | cons y cs ih =>
            intro k cc h ho
            simp only [idss, List.mem_append]
            cases k with
            | zero => simp at h; subst h; exact .inl ho
            | succ k => exact .inr (ih (by simpa using h) ho)
        exact this hc ho'
      · rw [cells_one (by simpa using ha)] at hc
        cases k <;> simp at hc
        subst hc
        exact ho'
  have finish : isAggV x = isAggV v → (cells x).length = (cells v).length → (∀ (k : Nat) d, (cells x)[k]? = some d → RepV w (callOwn ρ (givenOf 0 own args) (lentOf own args)) rt0 (some (1, [(a, k)])) d (g k) ∧ nh d) →
      Slot w (callOwn ρ (givenOf 0 own args) (lentOf own args)) rt0 (fun k => some (1, [(a, k)])) x u ∧ nh x := by
    intro h1 h2 h3
    refine ⟨⟨g, by rw [hp]; unfold pack; rw [h1, h2], fun k d hd => (h3 k d hd).1⟩, ?_⟩
    by_cases ha : isAggV x = true
    · cases x <;> simp [isAggV] at ha
      simp only [nh]
      exact nhs_iff.2 fun d hd => by
        obtain ⟨k, hk⟩ := List.mem_iff_getElem?.1 hd
        exact (h3 k d hk).2
    · exact (h3 0 x (by rw [cells_one (by simpa using ha)]; rfl)).2
  have giveCell : own[a]? = some true → ∀ (k : Nat) cc d, (cells v)[k]? = some cc → handC rt cc = some d → RepV w (callOwn ρ (givenOf 0 own args) (lentOf own args)) rt0 (some (1, [(a, k)])) d (g k) ∧ nh d := by
    intro ho k cc d hc hd
    have hr1 := hg k cc hc
    have hn1 := noNew_cell hn hc
    have row : ∀ o nv r s es, hid cc = some o → valid rt o nv (hpath cc) = some r → rowAt (hpath cc) r.s r.es = some (s, es) → RowOk w (callOwn ρ (givenOf 0 own args) (lentOf own args)) rt0 (1, [(a, k)]) s es ∧ nhs es ∧ (∀ b, ρ b = some (o, hpath cc) → callOwn ρ (givenOf 0 own args) (lentOf own args) b = some (1, [(a, k)])) ∧ live rt o nv (hpath cc) := by
      intro o nv r s es h1 h2 h3
      have hlk := (given_look c).2 ⟨v, cc, ho, hva, hc, h1, rfl⟩
      have hlook : look rt o nv (hpath cc) = some (s, es) := by simp [look, h2, h3]
      have hnes : nhs es := rowAt_nh (hr o r (valid_some h2).1) h3
      exact ⟨RowOk.move K (fun b l hb => ⟨callOwn_given hb hlk, rfl⟩) (look_rep H hlook) hnes, hnes, fun b hb => callOwn_given (t := []) (by simpa using hb) hlk, by simp [live, hlook]⟩
    unfold handC at hd
    split at hd
    · rename_i o nv p s off len
      simp only [Option.bind_eq_some_iff] at hd
      obtain ⟨r, hro, ⟨s2, es2⟩, hrow, hd⟩ := hd
      simp only at hd
      split at hd
      · rename_i hcond
        cases hd
        obtain ⟨rfl, rfl, rfl⟩ := hcond
        obtain ⟨h1, h2, h3, hlive⟩ := row o nv r s es2 rfl hro hrow
        refine ⟨?_, by simpa [nh] using h2⟩
        generalize g k = u' at hr1 ⊢
        cases hr1 with
        | hs _ _ _ _ _ _ _ _ hh _ =>
          obtain ⟨cc, A, rfl, hlc, hcc⟩ := hh hlive
          refine usl_of_row I.inj h1 hlc fun h0 => ?_
          obtain ⟨b, n, hb, hbl, rfl, hle⟩ := hcc h0
          exact ⟨b, n, h3 b hb, hbl, by simp, by simpa using hle⟩
      · cases hd
    · rename_i o nv p s i j
      simp only [Option.bind_eq_some_iff] at hd
      obtain ⟨r, hro, ⟨s2, es2⟩, hrow, hd⟩ := hd
      simp only at hd
      split at hd
      · rename_i e
        split at hd
        · rename_i hcond
          cases hd
          obtain ⟨rfl, rfl, rfl, hes⟩ := hcond
          obtain ⟨h1, h2, h3, hlive⟩ := row o nv r s [e] rfl hro hrow
          refine ⟨?_, by simpa [nh, nhs] using h2⟩
          generalize g k = u' at hr1 ⊢
          cases hr1 with
          | hp _ _ _ _ _ _ _ _ hh _ =>
            obtain ⟨b, n, hb, hbl, rfl⟩ := hh hlive
            simpa using uptr_of_row I.inj h1 (h3 b hb)
        · cases hd
      · cases hd
    · split at hd
      · rename_i hpl
        cases hd
        exact ⟨(hr1.keep K hn1).anyN, plain_nh hpl hn1⟩
      · cases hd
  rcases e2 with ⟨ho, hgv⟩ | ⟨ho, hsh⟩
  · by_cases ha : isAggV v = true
    · cases v <;> simp [isAggV] at ha
      rename_i cs
      simp only [hand, Option.map_eq_some_iff] at hgv
      obtain ⟨ds, hds, rfl⟩ := hgv
      obtain ⟨l2, hget⟩ := handCs_get hds
      refine finish rfl l2 fun k d hd => ?_
      have hk := (List.getElem?_eq_some_iff.1 hd).1
      obtain ⟨d', e1, e2⟩ := hget k _ (List.getElem?_eq_getElem (show k < cs.length by rw [← l2]; exact hk))
      have hd' : ds[k]? = some d := hd
      rw [hd'] at e1
      cases e1
      exact giveCell ho k _ d (List.getElem?_eq_getElem (show k < cs.length by rw [← l2]; exact hk)) e2
    · have ha' : isAggV v = false := by simpa using ha
      have hg' : handC rt v = some x := by cases v <;> first | exact hgv | exact absurd rfl ha
      have hh := giveCell ho 0 v x (by rw [cells_one ha']; rfl) hg'
      have hxa : isAggV x = false := handC_one hg' ha'
      refine finish (by rw [hxa, ha']) (by rw [cells_one hxa, cells_one ha']; rfl) fun k d hd => ?_
      rw [cells_one hxa] at hd
      cases k <;> simp at hd
      subst hd
      exact hh
  · by_cases ha : isAggV v = true
    · cases v <;> simp [isAggV] at ha
      rename_i cs
      simp only [share1, Option.map_eq_some_iff] at hsh
      obtain ⟨ds, hds, rfl⟩ := hsh
      obtain ⟨l2, hget⟩ := shares_get hds
      refine finish rfl l2 fun k d hd => ?_
      have hk := (List.getElem?_eq_some_iff.1 hd).1
      obtain ⟨d', e1, e2⟩ := hget k _ (List.getElem?_eq_getElem (show k < cs.length by rw [← l2]; exact hk))
      have hd' : ds[k]? = some d := hd
      rw [hd'] at e1
      cases e1
      have := shareCell ho k _ d (List.getElem?_eq_getElem (show k < cs.length by rw [← l2]; exact hk)) e2
      exact ⟨this.1.anyN, this.2⟩
    · have ha' : isAggV v = false := by simpa using ha
      have hv0 : (cells v)[0]? = some v := by rw [cells_one ha']; rfl
      by_cases hfn : ∃ f caps, v = .fn f caps
      · obtain ⟨f, caps, rfl⟩ := hfn
        simp only [share1, Option.map_eq_some_iff] at hsh
        obtain ⟨ds, hds, rfl⟩ := hsh
        obtain ⟨l2, hget⟩ := shares_get hds
        refine finish rfl rfl fun k d hd => ?_
        have : k = 0 ∧ d = .fn f ds := by
          cases k <;> simp [cells] at hd
          exact ⟨rfl, hd.symm⟩
        obtain ⟨rfl, rfl⟩ := this
        have h0 := hg 0 _ hv0
        generalize g 0 = u0 at h0 ⊢
        cases h0 with
        | fn _ _ _ g2 hg2 =>
          have each : ∀ (i : Nat) d, ds[i]? = some d → RepV w (callOwn ρ (givenOf 0 own args) (lentOf own args)) rt0 none d (g2 i) ∧ nh d := by
            intro i d hd
            have hk := (List.getElem?_eq_some_iff.1 hd).1
            have hci : caps[i]? = some (caps[i]'(by omega)) := List.getElem?_eq_getElem _
            obtain ⟨d', e1, e2⟩ := hget i _ hci
            rw [hd] at e1
            cases e1
            refine share_ok H J hr K e2 (hg2 i _ hci) (noNews_get (by simpa [noNew] using hn) hci) fun b o l ho' hb => ?_
            have hin : o ∈ lentOf own args := lentOf_mem ⟨a, _, ho, hva, by
              simp only [ids]
              have : ∀ {cs : List V} {k : Nat} {cc : V}, cs[k]? = some cc → o ∈ ids cc → o ∈ idss cs := by
                intro cs
                induction cs with
                | nil => intro k cc h; simp at h
                | cons y cs ih =>
                  intro k cc h ho
                  simp only [idss, List.mem_append]
                  cases k with
                  | zero => simp at h; subst h; exact .inl ho
                  | succ k => exact .inr (ih (by simpa using h) ho)
              exact this hci ho'⟩
            exact ⟨callOwn_lent hb (lookG_none (c.dis o hin)) hin, (hL _ _ _ hb).1⟩
          rw [← l2]
          refine ⟨.fn _ _ _ g2 fun i d hd => (each i d hd).1, ?_⟩
          simp only [nh]
          refine nhs_iff.2 fun d hd => ?_
          obtain ⟨k, hk⟩ := List.mem_iff_getElem?.1 hd
          exact (each k d hk).2
      · have hs' : share rt v = some x := by
          cases v <;> first | exact hsh | exact absurd rfl ha | exact absurd ⟨_, _, rfl⟩ hfn
        have hh := shareCell ho 0 v x hv0 hs'
        have hxa : isAggV x = false := by
          have := hs'
          unfold share at this
          split at this
          · simp only [Option.bind_eq_some_iff] at this
            obtain ⟨r, _, h⟩ := this
            split at h <;> cases h
            rfl
          · simp only [Option.bind_eq_some_iff] at this
            obtain ⟨r, _, h⟩ := this
            split at h
            · simp only [Option.map_eq_some_iff] at h
              obtain ⟨_, _, rfl⟩ := h
              rfl
            · cases h
          · cases this; rfl
          · split at this <;> cases this
            exact ha'
        refine finish (by rw [hxa, ha']) (by rw [cells_one hxa, cells_one ha']; rfl) fun k d hd => ?_
        rw [cells_one hxa] at hd
        cases k <;> simp at hd
        subst hd
        exact ⟨hh.1.anyN, hh.2⟩
end Go.Ln
/- A call: what is there behind it. -/
set_option linter.unusedVariables false
set_option linter.unusedSimpArgs false
set_option linter.unusedSectionVars false
namespace Go.Ln
open Go
variable {w w' : World} {ρ ρ' ρ'' : Own} {rt rt' rt'' : Store} {N : Nat → Nat → Prop}

/-- The row that was given away for a place among the arguments. -/
def invA (own : List Bool) (args : List V) (a k : Nat) : Option (Nat × Path) :=
  if own[a]? = some true then (args[a]?).bind fun v => ((cells v)[k]?).bind fun x => (hid x).map fun o => (o, hpath x) else none
theorem invA_iff {own : List Bool} {args : List V} (c : CallChk own args) {o a k : Nat} {p : Path} : invA own args a k = some (o, p) ↔ lookG (givenOf 0 own args) o = some (p, a, k) := by
  rw [given_look c]
  unfold invA
  constructor
  · intro h
    split at h
    · rename_i ho
      simp only [Option.bind_eq_some_iff, Option.map_eq_some_iff, Prod.mk.injEq] at h
      obtain ⟨v, h1, x, h2, o', h3, rfl, rfl⟩ := h
      exact ⟨v, x, ho, h1, h2, h3, rfl⟩
    · cases h
  · rintro ⟨v, x, ho, h1, h2, h3, rfl⟩
    simp [ho, h1, h2, h3]

theorem backAt_nv {p : Path} {r r' : Root} {y : V} (h : backAt p r y = some r') : r'.nv = r.nv + 1 := by
  unfold backAt at h
  split at h
  · unfold backRoot at h
    split at h
    · split at h <;> cases h; rfl
    · split at h <;> cases h; rfl
    · cases h
  · simp only [Option.bind_eq_some_iff] at h
    obtain ⟨x, _, h⟩ := h
    split at h
    · split at h
      · simp only [Option.map_eq_some_iff] at h
        obtain ⟨_, _, rfl⟩ := h
        rfl
      · cases h
    · split at h
      · simp only [Option.map_eq_some_iff] at h
        obtain ⟨_, _, rfl⟩ := h
        rfl
      · cases h
    · cases h
theorem backAt_own {p : Path} {r r' : Root} {y : V} (h : backAt p r y = some r') : ¬ notOwn y := by
  unfold backAt at h
  split at h
  · unfold backRoot at h
    split at h <;> first | (simp [notOwn]; done) | cases h
  · simp only [Option.bind_eq_some_iff] at h
    obtain ⟨x, _, h⟩ := h
    split at h <;> first | (simp [notOwn]; done) | cases h
theorem hand_cell {own : List Bool} {v xv xx : V} {a k : Nat} (e1 : own[a]? = some true) (e3 : (cells v)[k]? = some xx) (e6 : (own[a]? = some true ∧ hand rt v = some xv) ∨ (own[a]? ≠ some true ∧ share1 rt v = some xv)) : ∃ z, (cells xv)[k]? = some z := by
  rcases e6 with ⟨_, hgv⟩ | ⟨h, _⟩
  · by_cases ha : isAggV v = true
    · cases v <;> simp [isAggV] at ha
      simp only [hand, Option.map_eq_some_iff] at hgv
      obtain ⟨ds, hds, rfl⟩ := hgv
      obtain ⟨l2, hget⟩ := handCs_get hds
      obtain ⟨d, hd, _⟩ := hget k _ e3
      exact ⟨d, hd⟩
    · rw [cells_one (by simpa using ha)] at e3
      cases k <;> simp at e3
      have hg2 : handC rt v = some xv := by cases v <;> first | exact hgv | exact absurd rfl ha
      rw [cells_one (handC_one hg2 (by simpa using ha))]
      exact ⟨xv, rfl⟩
  · exact absurd e1 h

open Classical in
noncomputable def backOwn (w : World) (ρ ρ' : Own) (own : List Bool) (args : List V) (dead : List Nat) (rt2 : Store) (q : Nat) : Own := fun b =>
  match ρ' b with
  | some (0, _) => (match ρ b with
    | some (o, l) => if lookG (givenOf 0 own args) o = none ∨ (rt2 o).isSome then some (o, l) else none
    | none => none)
  | some (1, x :: l) => match invA own args x.1 x.2 with
    | some (o, p) => if (rt2 o).isSome then some (o, p ++ l) else none
    | none => none
  | some (2, l) => some (q, l)
  | some _ => none
  | none => if b < w.heap.size then (match ρ b with
    | some (o, l) => if lookG (givenOf 0 own args) o = none ∧ o ∉ dead then some (o, l) else none
    | none => none) else none

section
variable {own : List Bool} {args xs : List V} {us : List Value} {outs : List V} {dead : List Nat} {rt2 : Store} {q : Nat} {r : V} {u : Value}
  (H : RtOk w ρ rt) (J : Inj ρ) (hr : RtN rt) (hL : Lab w ρ rt noU) (hq : Fresh0 rt q) (c : CallChk own args)
  (af : Aft w (callOwn ρ (givenOf 0 own args) (lentOf own args)) w' ρ') (hdead : ∀ o, o ∈ dead → o ∈ lentOf own args) (hrt2 : rt2 = backSt rt (givenOf 0 own args) own outs dead)
include H J hr hL hq c af hdead hrt2

theorem back_given {b a k o : Nat} {l p} (h : ρ' b = some (1, (a, k) :: l)) (hg : lookG (givenOf 0 own args) o = some (p, a, k)) (ho : (rt2 o).isSome = true) : backOwn w ρ ρ' own args dead rt2 q b = some (o, p ++ l) := by
  simp [backOwn, h, (invA_iff c).2 hg, ho]
theorem back_res {b : Nat} {l} (h : ρ' b = some (2, l)) : backOwn w ρ ρ' own args dead rt2 q b = some (q, l) := by simp [backOwn, h]
theorem back_else {b o : Nat} {l} (h : ρ b = some (o, l)) (hg : lookG (givenOf 0 own args) o = none) (ho : o ∉ dead) : backOwn w ρ ρ' own args dead rt2 q b = some (o, l) ∧ w'.heap[b]? = w.heap[b]? := by
  have hlt := (hL b o l h).1
  by_cases hl : o ∈ lentOf own args
  · have h1 := af.fr b (callOwn_lent h hg hl) hlt
    exact ⟨by simp [backOwn, h1.1, hlt, h, hg, ho], h1.2⟩
  · have h1 := af.k0 b _ (callOwn_far h hg hl)
    exact ⟨by simp [backOwn, h1.1, h, hg], h1.2⟩
theorem back_part {b o a k : Nat} {l p} (h : ρ b = some (o, l)) (hg : lookG (givenOf 0 own args) o = some (p, a, k)) (hp : ¬ p <+: l) (ho : (rt2 o).isSome = true) : backOwn w ρ ρ' own args dead rt2 q b = some (o, l) ∧ w'.heap[b]? = w.heap[b]? := by
  have h1 := af.k0 b _ (callOwn_part h hg hp)
  exact ⟨by simp [backOwn, h1.1, h, ho], h1.2⟩
theorem back_inv {b o : Nat} {l} (h : backOwn w ρ ρ' own args dead rt2 q b = some (o, l)) : (∃ p t a k, l = p ++ t ∧ ρ' b = some (1, (a, k) :: t) ∧ lookG (givenOf 0 own args) o = some (p, a, k) ∧ (rt2 o).isSome = true) ∨ (o = q ∧ ρ' b = some (2, l)) ∨
    (ρ b = some (o, l) ∧ ((lookG (givenOf 0 own args) o = none ∧ o ∉ dead) ∨ ∃ p a k, lookG (givenOf 0 own args) o = some (p, a, k) ∧ ¬ p <+: l ∧ (rt2 o).isSome = true)) := by
  unfold backOwn at h
  split at h
  · rename_i l' hb
    right; right
    have h1 := af.f0 b l' hb
    split at h
    · rename_i o1 l1 hb1
      split at h
      · rename_i hor
        cases h
        refine ⟨hb1, ?_⟩
        cases hg : lookG (givenOf 0 own args) o with
        | none =>
          refine .inl ⟨rfl, fun hd => ?_⟩
          rw [callOwn_lent hb1 hg (hdead o hd)] at h1
          cases h1
        | some x =>
          obtain ⟨p, a, k⟩ := x
          refine .inr ⟨p, a, k, rfl, ?_, hor.resolve_left (by rw [hg]; simp)⟩
          rintro ⟨t, rfl⟩
          rw [callOwn_given hb1 hg] at h1
          cases h1
      · cases h
    · cases h
  · rename_i x l' hb
    split at h
    · rename_i o' p' hi
      split at h
      · rename_i hs
        cases h
        exact .inl ⟨p', l', x.1, x.2, rfl, hb, (invA_iff c).1 hi, hs⟩
      · cases h
    · cases h
  · rename_i l' hb
    cases h
    exact .inr (.inl ⟨rfl, hb⟩)
  · cases h
  · split at h
    · split at h
      · rename_i hb
        split at h
        · rename_i hc
          cases h
          exact .inr (.inr ⟨hb, .inl hc⟩)
        · cases h
      · cases h
    · cases h

theorem back_none (hd : ∀ o, o ∈ lentOf own args → o ∈ dead) {b : Nat} (h : ρ' b = none) : backOwn w ρ ρ' own args dead rt2 q b = none := by
  cases hb : backOwn w ρ ρ' own args dead rt2 q b with
  | none => rfl
  | some L =>
    obtain ⟨o, l⟩ := L
    exfalso
    rcases back_inv H J hr hL hq c af hdead hrt2 hb with ⟨p, t, a, k, _, h1, _⟩ | ⟨_, h1⟩ | ⟨h1, ⟨h2, h3⟩ | ⟨p, a, k, h2, h3, _⟩⟩
    · rw [h] at h1; cases h1
    · rw [h] at h1; cases h1
    · have := (af.k0 b _ (callOwn_far h1 h2 (fun hl => h3 (hd o hl)))).1
      rw [h] at this
      cases this
    · have := (af.k0 b _ (callOwn_part h1 h2 h3)).1
      rw [h] at this
      cases this

theorem rt2_none {o : Nat} (h : rt o = none) : rt2 o = none := by
  rw [hrt2]
  unfold backSt
  split
  · simp [h]
  · split
    · rfl
    · exact h
theorem rt2_else {o : Nat} {r' : Root} (h : rt2 o = some r') (hg : lookG (givenOf 0 own args) o = none) : rt o = some r' ∧ o ∉ dead := by
  rw [hrt2] at h
  unfold backSt at h
  rw [hg] at h
  simp only at h
  split at h
  · cases h
  · rename_i hd
    exact ⟨h, by simpa using hd⟩
theorem rt2_back {o a k : Nat} {p : Path} {r' : Root} (h : rt2 o = some r') (hg : lookG (givenOf 0 own args) o = some (p, a, k)) : ∃ r x y, rt o = some r ∧ outAt own outs a = some x ∧ (cells x)[k]? = some y ∧ backAt p r y = some r' := by
  rw [hrt2] at h
  unfold backSt at h
  rw [hg] at h
  simp only [Option.bind_eq_some_iff] at h
  obtain ⟨r, h1, y, ⟨x, h2, h3⟩, h4⟩ := h
  exact ⟨r, x, y, h1, h2, h3, h4⟩

theorem back_inj : Inj (backOwn w ρ ρ' own args dead rt2 q) := by
  have hq2 : rt2 q = none := rt2_none H J hr hL hq c af hdead hrt2 (hq.at')
  have hqρ : ∀ b l, ρ b ≠ some (q, l) := by
    intro b l h
    rcases (hL _ _ _ h).2 with h | ⟨r, h⟩
    · have := hq.p; simp only [noU] at h; omega
    · rw [hq.at'] at h; cases h
  rintro b b' ⟨o, l⟩ h h'
  rcases back_inv H J hr hL hq c af hdead hrt2 h with ⟨p, t, a, k, h0, h1, h2, h3⟩ | ⟨h1, h2⟩ | ⟨h1, h2⟩ <;> rcases back_inv H J hr hL hq c af hdead hrt2 h' with ⟨p', t', a', k', h0', h1', h2', h3'⟩ | ⟨h1', h2'⟩ | ⟨h1', h2'⟩
  · rw [h2] at h2'
    cases h2'
    rw [h0] at h0'
    have := List.append_cancel_left h0'
    subst this
    exact af.inj _ _ _ h1 h1'
  · subst h1'
    rw [hq2] at h3
    cases h3
  · rcases h2' with ⟨h2', _⟩ | ⟨p', a', k', h2', h3', _⟩
    · rw [h2] at h2'; cases h2'
    · rw [h2] at h2'
      cases h2'
      exact absurd ⟨t, h0.symm⟩ h3'
  · subst h1
    rw [hq2] at h3'
    cases h3'
  · exact af.inj _ _ _ h2 h2'
  · subst h1
    exact absurd h1' (hqρ _ _)
  · rcases h2 with ⟨h2, _⟩ | ⟨p, a, k, h2, h3, _⟩
    · rw [h2] at h2'; cases h2'
    · rw [h2] at h2'
      cases h2'
      exact absurd ⟨t', h0'.symm⟩ h3
  · subst h1'
    exact absurd h1 (hqρ _ _)
  · exact J _ _ _ h1 h1'

/-- A cell that comes back reads at its place. -/
theorem carry {o0 : Nat} {p0 : List (Nat × Nat)} {L : Loc} {v : V} {z : Value} (h : RepV w' ρ' rt0 (some (o0, p0)) v z) (hn : nh v) (hd : hasImm v = true → ∀ o, o ∈ lentOf own args → o ∈ dead)
    (hmv : ∀ b l, ρ' b = some (o0, p0 ++ l) → backOwn w ρ ρ' own args dead rt2 q b = some (L.1, L.2 ++ l)) : RepV w' (backOwn w ρ ρ' own args dead rt2 q) rt2 (some L) v z := by
  have e : ∀ l : List (Nat × Nat), (p0 ++ l).drop p0.length = l := fun l => by simp
  by_cases hi : hasImm v = true
  · have := h.mono0 (New := fun _ _ => True) (w' := w') (ρ' := backOwn w ρ ρ' own args dead rt2 q) (rt' := rt2) ⟨fun b hb _ => ⟨back_none H J hr hL hq c af hdead hrt2 (hd hi) hb, rfl⟩, fun o nv p hN _ => absurd trivial hN⟩
      (fun l => (L.1, L.2 ++ l.2.drop p0.length)) (fun l => l.1 = o0 ∧ p0 <+: l.2)
      (fun l i k hl => by
        obtain ⟨_, t, ht⟩ := hl
        simp [Loc.at, ← ht])
      (fun l i k hl => ⟨hl.1, hl.2.trans (by simp [Loc.at])⟩)
      (fun b l hl hb => by
        obtain ⟨l1, l2⟩ := l
        obtain ⟨rfl, t, rfl⟩ := hl
        exact ⟨by simpa using hmv b t hb, rfl⟩)
      (fun l hl => by cases hl; exact ⟨rfl, List.prefix_refl _⟩) (nh_noNew hn)
    simpa using this
  · have := h.monoN (w' := w') (ρ' := backOwn w ρ ρ' own args dead rt2 q) (rt' := rt2)
      (fun l => (L.1, L.2 ++ l.2.drop p0.length)) (fun l => l.1 = o0 ∧ p0 <+: l.2)
      (fun l i k hl => by
        obtain ⟨_, t, ht⟩ := hl
        simp [Loc.at, ← ht])
      (fun l i k hl => ⟨hl.1, hl.2.trans (by simp [Loc.at])⟩)
      (fun b l hl hb => by
        obtain ⟨l1, l2⟩ := l
        obtain ⟨rfl, t, rfl⟩ := hl
        exact ⟨by simpa using hmv b t hb, rfl⟩)
      (fun l hl => by cases hl; exact ⟨rfl, List.prefix_refl _⟩) hn (by simpa using hi)
    simpa using this

theorem back_keep {Un : Nat → Prop} (hret : ∀ o r', rt2 o = some r' → True) (hlen : args.length = us.length) (hxs : argsV rt own args = some xs)
    (hargs : ArgsOk w (callOwn ρ (givenOf 0 own args) (lentOf own args)) xs us) (hout : OutsOk w (callOwn ρ (givenOf 0 own args) (lentOf own args)) w' ρ' own xs us outs) {id : Nat} :
    Keep (NewOf Un rt) w ρ rt w' (backOwn w ρ ρ' own args dead rt2 q) rt2 := by
  refine ⟨fun b hb hl => ?_, fun o nv p hN hl => ?_, fun b l hb => ?_⟩
  · have h1 := af.fr b (callOwn_none hb) hl
    exact ⟨by simp [backOwn, h1.1, hl, hb], h1.2⟩
  · obtain ⟨r', hr2, hpv⟩ : ∃ r', rt2 o = some r' ∧ ((p = [] ∨ r'.nv = nv) ∧ (rowAt p r'.s r'.es).isSome = true) := by
      unfold live look at hl
      cases hv : valid rt2 o nv p with
      | none => simp [hv] at hl
      | some r' =>
        obtain ⟨h1, h2⟩ := valid_some hv
        simp only [hv, Option.bind_some] at hl
        exact ⟨r', h1, h2, hl⟩
    cases hg : lookG (givenOf 0 own args) o with
    | none =>
      obtain ⟨h1, h2⟩ := rt2_else H J hr hL hq c af hdead hrt2 hr2 hg
      refine ⟨?_, fun b n hb hn => ⟨(back_else H J hr hL hq c af hdead hrt2 hb hg h2).1, af.wk.blk b n hn⟩⟩
      unfold live look valid
      have : (p.isEmpty || r'.nv == nv) = true := by
        rcases hpv.1 with h | h <;> simp [h]
      simp [h1, this, hpv.2]
    | some x =>
      obtain ⟨pp, a, k⟩ := x
      obtain ⟨r1, x, y, h1, h2, h3, h4⟩ := rt2_back H J hr hL hq c af hdead hrt2 hr2 hg
      have hnv : nv ≤ r1.nv := Nat.le_of_not_lt fun hlt => hN (.inr ⟨r1, h1, hlt⟩)
      have hnv' : r'.nv = r1.nv + 1 := backAt_nv h4
      have hp : p = [] := by
        rcases hpv.1 with h | h
        · exact h
        · omega
      subst hp
      refine ⟨by simp [live, look, valid, h1, rowAt], fun b n hb hn => ⟨?_, af.wk.blk b n hn⟩⟩
      by_cases hpp : pp = []
      case neg =>
        exact (back_part H J hr hL hq c af hdead hrt2 hb hg (by simpa using hpp) (by rw [hr2]; rfl)).1
      subst hpp
      obtain ⟨v, xx, e1, e2, e3, e4, _⟩ := (given_look c).1 hg
      obtain ⟨ll, hx⟩ := argsV_get hxs
      obtain ⟨xv, e5, e6⟩ := hx a v e2
      have hua : ∃ u, us[a]? = some u := ⟨_, List.getElem?_eq_getElem (by have := (List.getElem?_eq_some_iff.1 e2).1; omega)⟩
      obtain ⟨u, hua⟩ := hua
      obtain ⟨⟨g, hp, hg'⟩, hnn⟩ := hargs.2 a xv u e5 hua
      have hyo : ¬ notOwn y := backAt_own h4
      obtain ⟨z, hz⟩ := hand_cell e1 e3 e6
      obtain ⟨q1, q2, q3⟩ := hout a xv u x e5 hua h2 g hp k y z h3 hz hyo
      have := back_given H J hr hL hq c af hdead hrt2 (q3 b n (callOwn_given (t := []) (by simpa using hb) hg) hn) hg (by rw [hr2]; rfl)
      simpa using this
  · have h0 : lookG (givenOf 0 own args) 0 = none := lookG_none c.z
    exact back_else H J hr hL hq c af hdead hrt2 hb h0 fun hd => c.z' (hdead 0 hd)
end
end Go.Ln
/- A call, whole. -/
set_option linter.unusedVariables false
set_option linter.unusedSimpArgs false
set_option linter.unusedSectionVars false
namespace Go.Ln
open Go
variable {w w' : World} {ρ ρ' ρ'' : Own} {rt rt' rt'' : Store} {N : Nat → Nat → Prop}

theorem hasImms_get : ∀ {vs : List V} {i : Nat} {v : V}, hasImms vs = false → vs[i]? = some v → hasImm v = false
  | [], i, v, _, h => by simp at h
  | x :: vs, i, v, h, e => by
    simp only [hasImms, Bool.or_eq_false_iff] at h
    cases i with
    | zero => simp at e; subst e; exact h.1
    | succ i => exact hasImms_get h.2 (by simpa using e)
theorem hasImm_cell {v x : V} {k : Nat} (h : hasImm v = false) (e : (cells v)[k]? = some x) : hasImm x = false := by
  by_cases ha : isAggV v = true
  · cases v <;> simp [isAggV] at ha
    exact hasImms_get (by simpa [hasImm, cells] using h) e
  · rw [cells_one (by simpa using ha)] at e
    cases k <;> simp at e
    subst e
    exact h
theorem outAt_get : ∀ {own : List Bool} {outs : List V} {a : Nat} {x : V}, outAt own outs a = some x → ∃ i : Nat, outs[i]? = some x
  | [], outs, a, x, h => by simp [outAt] at h
  | true :: bs, [], a, x, h => by cases a <;> simp [outAt] at h
  | true :: bs, y :: ys, 0, x, h => by simp [outAt] at h; exact ⟨0, by simp [h]⟩
  | true :: bs, y :: ys, a + 1, x, h => by
    simp only [outAt] at h
    obtain ⟨i, hi⟩ := outAt_get h
    exact ⟨i + 1, by simpa using hi⟩
  | false :: bs, outs, 0, x, h => by cases outs <;> simp [outAt] at h
  | false :: bs, outs, a + 1, x, h => by
    have : outAt bs outs a = some x := by cases outs <;> simpa [outAt] using h
    exact outAt_get this

section
variable {own : List Bool} {args xs : List V} {us : List Value} {outs : List V} {dead : List Nat} {rt2 : Store} {q : Nat} {r : V} {u : Value}
  (H : RtOk w ρ rt) (J : Inj ρ) (hr : RtN rt) (hL : Lab w ρ rt noU) (hq : Fresh0 rt q) (c : CallChk own args)
  (af : Aft w (callOwn ρ (givenOf 0 own args) (lentOf own args)) w' ρ') (hdead : ∀ o, o ∈ dead → o ∈ lentOf own args) (hrt2 : rt2 = backSt rt (givenOf 0 own args) own outs dead)
include H J hr hL hq c af hdead hrt2

/-- The cell that comes back for a row. -/
theorem back_cell (hlen : args.length = us.length) (hxs : argsV rt own args = some xs) (hargs : ArgsOk w (callOwn ρ (givenOf 0 own args) (lentOf own args)) xs us)
    (hout : OutsOk w (callOwn ρ (givenOf 0 own args) (lentOf own args)) w' ρ' own xs us outs) {o a k : Nat} {p : Path} {r' : Root} (hr2 : rt2 o = some r') (hg : lookG (givenOf 0 own args) o = some (p, a, k)) :
    ∃ r1 x y z, rt o = some r1 ∧ outAt own outs a = some x ∧ (cells x)[k]? = some y ∧ backAt p r1 y = some r' ∧ ¬ notOwn y ∧ nh y ∧ RepV w' ρ' rt0 (some (1, [(a, k)])) y z ∧
      ∀ b n, callOwn ρ (givenOf 0 own args) (lentOf own args) b = some (1, [(a, k)]) → Blk w b n → ρ' b = some (1, [(a, k)]) := by
  obtain ⟨r1, x, y, h1, h2, h3, h4⟩ := rt2_back H J hr hL hq c af hdead hrt2 hr2 hg
  obtain ⟨v, xx, e1, e2, e3, e4, _⟩ := (given_look c).1 hg
  obtain ⟨ll, hx⟩ := argsV_get hxs
  obtain ⟨xv, e5, e6⟩ := hx a v e2
  obtain ⟨u, hua⟩ : ∃ u, us[a]? = some u := ⟨_, List.getElem?_eq_getElem (by have := (List.getElem?_eq_some_iff.1 e2).1; omega)⟩
  obtain ⟨⟨g, hp, hg'⟩, hnn⟩ := hargs.2 a xv u e5 hua
  have hyo : ¬ notOwn y := backAt_own h4
  obtain ⟨z, hz⟩ := hand_cell e1 e3 e6
  obtain ⟨q1, q2, q3⟩ := hout a xv u x e5 hua h2 g hp k y z h3 hz hyo
  exact ⟨r1, x, y, g k, h1, h2, h3, h4, hyo, q1, q2, q3⟩

theorem back_row (hlen : args.length = us.length) (hxs : argsV rt own args = some xs) (hargs : ArgsOk w (callOwn ρ (givenOf 0 own args) (lentOf own args)) xs us)
    (hout : OutsOk w (callOwn ρ (givenOf 0 own args) (lentOf own args)) w' ρ' own xs us outs) (him : hasImms outs = true → ∀ o, o ∈ lentOf own args → o ∈ dead) :
    RtOk w' (backOwn w ρ ρ' own args dead rt2 q) rt2 ∧ RtN rt2 ∧ Lab w' (backOwn w ρ ρ' own args dead rt2 q) rt2 (fun o _ => o = 0 ∨ o = q) := by
  have K := back_keep H J hr hL hq c af hdead hrt2 (Un := fun _ => False) (fun _ _ _ => trivial) hlen hxs hargs hout (id := q)
  have BJ := back_inj H J hr hL hq c af hdead hrt2
  refine ⟨fun o r' h => ?_, fun o r' h => ?_, ?_⟩
  · cases hg : lookG (givenOf 0 own args) o with
    | none =>
      obtain ⟨h1, h2⟩ := rt2_else H J hr hL hq c af hdead hrt2 h hg
      exact RowOk.under K (fun b l hb _ => back_else H J hr hL hq c af hdead hrt2 hb hg h2) (H o r' h1) (hr o r' h1)
    | some x =>
      obtain ⟨p, a, k⟩ := x
      obtain ⟨r1, x, y, z, h1, h2, h3, h4, h5, h6, h7, h8⟩ := back_cell H J hr hL hq c af hdead hrt2 hlen hxs hargs hout h hg
      have hsm : (rt2 o).isSome = true := by rw [h]; rfl
      have hcar := carry H J hr hL hq c af hdead hrt2 (L := (o, p)) h7 h6 (fun hi => him (by
        cases hb : hasImms outs with
        | true => rfl
        | false =>
          obtain ⟨i, hi'⟩ := outAt_get h2
          rw [hasImm_cell (hasImms_get hb hi') h3] at hi
          cases hi)) (fun b l hb => back_given H J hr hL hq c af hdead hrt2 hb hg hsm)
      have deep : ∀ {s1 : Nat} {old new es' : List V}, rowAt p r1.s r1.es = some (s1, old) → setRow new p r1.es = some es' → new.length = old.length → RowOk w' (backOwn w ρ ρ' own args dead rt2 q) rt2 (o, p) s1 new → RowOk w' (backOwn w ρ ρ' own args dead rt2 q) rt2 (o, []) r1.s es' := by
        intro s1 old new es' q1 q2 q3 q4
        refine rowOk_set (p0 := []) K BJ q3 (H o r1 h1) (hr o r1 h1) q1 q2 (fun b l hb _ hl => ?_) (fun b arr T hb hh => ?_) (by simpa using q4)
        · exact back_part H J hr hL hq c af hdead hrt2 hb hg (by simpa using hl) hsm
        · have hb' : ρ b = some (o, p ++ []) := by simpa using hb
          have hk := h8 b arr.size (callOwn_given hb' hg) ⟨arr, T, hh, rfl⟩
          have := back_given H J hr hL hq c af hdead hrt2 hk hg hsm
          obtain ⟨arr', T', q5, q6⟩ := af.wk.blk b arr.size ⟨arr, T, hh, rfl⟩
          exact ⟨by simpa using this, arr', T', q5, q6⟩
      unfold backAt at h4
      split at h4
      · unfold backRoot at h4
        split at h4
        · split at h4 <;> cases h4
          exact rowOk_usl hcar
        · rename_i e
          split at h4
          · rename_i hc
            cases h4
            have := rowOk_uptr hcar
            rw [hc] at this
            exact this
          · cases h4
        · cases h4
      · simp only [Option.bind_eq_some_iff] at h4
        obtain ⟨⟨s1, old⟩, q1, h4⟩ := h4
        simp only at h4
        split at h4
        · split at h4
          · rename_i hc
            simp only [Option.map_eq_some_iff] at h4
            obtain ⟨es', q2, rfl⟩ := h4
            obtain ⟨rfl, hc2⟩ := hc
            exact deep q1 q2 hc2 (rowOk_usl hcar)
          · cases h4
        · rename_i e
          split at h4
          · rename_i hc
            simp only [Option.map_eq_some_iff] at h4
            obtain ⟨es', q2, rfl⟩ := h4
            have := rowOk_uptr hcar
            rw [hc.1] at this
            exact deep q1 q2 (by simp [hc.2]) this
          · cases h4
        · cases h4
  · cases hg : lookG (givenOf 0 own args) o with
    | none => exact hr o r' (rt2_else H J hr hL hq c af hdead hrt2 h hg).1
    | some x =>
      obtain ⟨p, a, k⟩ := x
      obtain ⟨r1, x, y, z, h1, h2, h3, h4, h5, h6, h7, h8⟩ := back_cell H J hr hL hq c af hdead hrt2 hlen hxs hargs hout h hg
      unfold backAt at h4
      split at h4
      · unfold backRoot at h4
        split at h4
        · split at h4 <;> cases h4
          simpa [nh] using h6
        · split at h4 <;> cases h4
          simpa [nh, nhs] using h6
        · cases h4
      · simp only [Option.bind_eq_some_iff] at h4
        obtain ⟨⟨s1, old⟩, q1, h4⟩ := h4
        simp only at h4
        split at h4
        · split at h4
          · simp only [Option.map_eq_some_iff] at h4
            obtain ⟨es', q2, rfl⟩ := h4
            exact setRow_nh (by simpa [nh] using h6) (hr o r1 h1) q2
          · cases h4
        · split at h4
          · simp only [Option.map_eq_some_iff] at h4
            obtain ⟨es', q2, rfl⟩ := h4
            exact setRow_nh (by simpa [nh, nhs] using h6) (hr o r1 h1) q2
          · cases h4
        · cases h4
  · refine ⟨fun b o l h => ?_, rt2_none H J hr hL hq c af hdead hrt2 hL.z, fun b l h => ?_⟩
    · rcases back_inv H J hr hL hq c af hdead hrt2 h with ⟨p, t, a, k, h0, h1, h2, h3⟩ | ⟨h1, h2⟩ | ⟨h1, h2⟩
      · exact ⟨(af.lab _ _ _ h1).1, .inr (Option.isSome_iff_exists.1 h3)⟩
      · exact ⟨(af.lab _ _ _ h2).1, .inl (.inr h1)⟩
      · refine ⟨Nat.lt_of_lt_of_le (hL _ _ _ h1).1 af.wk.size, ?_⟩
        rcases h2 with ⟨h2, h3⟩ | ⟨p, a, k, h2, h3, h4⟩
        · rcases (hL _ _ _ h1).2 with h | ⟨r, h⟩
          · exact .inl (.inl h)
          · refine .inr ⟨r, ?_⟩
            rw [hrt2]
            unfold backSt
            rw [h2]
            simp [h3, h]
        · exact .inr (Option.isSome_iff_exists.1 h4)
    · rcases back_inv H J hr hL hq c af hdead hrt2 h with ⟨p, t, a, k, h0, h1, h2, h3⟩ | ⟨h1, h2⟩ | ⟨h1, h2⟩
      · rw [lookG_none c.z] at h2; cases h2
      · have := hq.p; omega
      · exact hL.f _ _ h1
end

theorem Runs.mono {P : Program} {f : FuncId} {us : Array Value} {K K' : Value → World → Prop} (h : Runs P f us w K) (hk : ∀ u w', K u w' → K' u w') : Runs P f us w K' := by
  rcases h with ⟨u, w', h1, h2⟩ | ⟨h1, h2⟩
  · exact .inl ⟨u, w', h1, hk _ _ h2⟩
  · exact .inr ⟨h1, h2.mono fun e w' ⟨u, he, h⟩ => ⟨u, he, hk _ _ h⟩⟩

theorem tup_slot {vs : List V} {p : Nat → Value} (h : ∀ (c : Nat) v, vs[c]? = some v → Slot w ρ rt nowhere v (p c)) : RepV w ρ rt none (.tup vs) (.tuple (arrOf vs.length p)) := by
  have : ∀ c : Nat, ∃ g : Nat → Value, ∀ v, vs[c]? = some v → p c = pack v g ∧ ∀ k x, (cells v)[k]? = some x → RepV w ρ rt none x (g k) := fun c => by
    cases hv : vs[c]? with
    | none => exact ⟨fun _ => undef, fun v h => by cases h⟩
    | some v =>
      obtain ⟨g, h1, h2⟩ := h c v hv
      exact ⟨g, fun v' h' => by cases h'; exact ⟨h1, h2⟩⟩
  obtain ⟨g, hg⟩ := Classical.skolem.1 this
  exact .tup _ vs p g (fun c v hv => (hg c v hv).1) fun c v k x hv hx => (hg c v hv).2 k x hx

theorem n_call {P : Program} {E : Env} {G : Ground} (hG : ∀ f e, E.fn f = some e → Good P G f e) (H : RtOk w ρ rt) (J : Inj ρ) (hr : RtN rt) (hL : Lab w ρ rt noU) {Un : Nat → Prop} {id : Nat} (hi : Fresh Un rt id) (hgr : G.ok w ρ) {f : FuncId} {args : List V} {us : List Value} {v : V} (hlen : args.length = us.length)
    (hv : ∀ (a : Nat) v u, args[a]? = some v → us[a]? = some u → Slot w ρ rt nowhere v u ∧ noNew (NewOf Un rt) v) (h : callV E rt id f args = some (v, rt')) : Runs P f us.toArray w (fun u w' => Out Un w ρ rt id v rt' u w') := by
  simp only [callV, Option.bind_eq_some_iff] at h
  obtain ⟨e, he, h⟩ := h
  split at h
  · rename_i hchk
    have c := callChk hchk
    simp only [Option.bind_eq_some_iff] at h
    obtain ⟨xs, hxs, ⟨r, outs⟩, hF, h⟩ := h
    simp only at h
    split at h
    · rename_i hroom
      cases h
      have hargs := callArgs (N := NewOf Un rt) H J hr hL c hlen hv hxs
      have hinn := callOwn_inn J hL c
      refine (hG f e he w _ xs us r outs hargs hinn ⟨hgr.1, fun b hb => callOwn_none (hgr.2.1 b hb), hgr.2.2⟩ hF).mono ?_
      rintro u w' ⟨ρ', af, ⟨p, hu, hp⟩, hout⟩
      generalize hdd : (if (hasImm r || hasImms outs) = true then lentOf e.own args else []) = dead at hroom ⊢
      have hdead : ∀ o, o ∈ dead → o ∈ lentOf e.own args := fun o ho => by
        rw [← hdd] at ho
        split at ho
        · exact ho
        · cases ho
      have himm : (hasImm r || hasImms outs) = true → ∀ o, o ∈ lentOf e.own args → o ∈ dead := fun hi o ho => by
        rw [← hdd, if_pos hi]; exact ho
      generalize hrt2 : backSt rt (givenOf 0 e.own args) e.own outs dead = rt2 at hroom ⊢
      have hrt2' := hrt2.symm
      obtain ⟨b1, b2, b3⟩ := back_row H J hr hL hi.one c af hdead hrt2' hlen hxs hargs hout (fun hb => himm (by simp [hb]))
      have bk := back_keep H J hr hL hi.one c af hdead hrt2' (Un := Un) (fun _ _ _ => trivial) hlen hxs hargs hout (id := id)
      have bj := back_inj H J hr hL hi.one c af hdead hrt2'
      have hf2 : Fresh Un rt2 id := ⟨fun o ho => rt2_none H J hr hL hi.one c af hdead hrt2' (hi.f o ho), hi.u, hi.p⟩
      have hcell : ∀ (cc : Nat) (v : V), (comps r)[cc]? = some v → hasImm r = false → hasImm v = false := by
        intro cc v hv hn
        by_cases ht : isTup r = true
        · cases r <;> simp [isTup] at ht
          exact hasImms_get (by simpa [hasImm, comps] using hn) hv
        · have hcr : comps r = [r] := by cases r <;> first | rfl | exact absurd rfl ht
          rw [hcr] at hv
          cases cc with
          | zero => simp at hv; subst hv; exact hn
          | succ cc => simp at hv
      have pl := placeAll (N := NewOf Un rt) b1 bj b2 b3 (Nat.ne_of_gt hi.p) hf2.at hi.p (fun o h1 h2 => hf2.f o (hi.u o h1 (by omega))) (fun o nv h1 h2 => .inl (hi.u o h1 (by omega))) (vs := comps r) (p := p) (fun cc v hv => by
        obtain ⟨⟨g, h1, h2⟩, h3, h4⟩ := hp cc v hv
        refine ⟨⟨g, h1, fun k x hx => ?_⟩, h3⟩
        refine carry H J hr hL hi.one c af hdead hrt2' (L := (id, [(cc, k)])) (h2 k x hx) (nh_cell h3 hx) (fun him => himm ?_) (fun b l hb => back_res H J hr hL hi.one c af hdead hrt2' hb)
        cases hri : hasImm r with
        | true => simp
        | false => rw [hasImm_cell (hcell cc v hv hri) hx] at him; cases him)
      refine ⟨_, ⟨pl.rok, pl.inj, pl.rtn, bk.trans pl.keep af.wk.size, pl.lab, af.wk, ?_, fun b l h => ?_⟩, ?_, ?_⟩
      rotate_left
      · rcases back_inv H J hr hL hi.one c af hdead hrt2' (pl.f0 b l h) with ⟨p, t, a, k, h0, h1, h2, h3⟩ | ⟨h1, h2⟩ | ⟨h1, h2⟩
        · rw [lookG_none c.z] at h2; cases h2
        · have := hi.p; omega
        · exact h1
      rotate_right
      · intro o r' h
        rcases pl.nv o r' h with h1 | ⟨h1, h2⟩
        · left
          cases hg : lookG (givenOf 0 e.own args) o with
          | none => exact ⟨r', (rt2_else H J hr hL hi.one c af hdead hrt2' h1 hg).1, Nat.le_refl _⟩
          | some x =>
            obtain ⟨p, a, k⟩ := x
            obtain ⟨r1, x, y, q1, q2, q3, q4⟩ := rt2_back H J hr hL hi.one c af hdead hrt2' h1 hg
            exact ⟨r1, q1, by rw [backAt_nv q4]; exact Nat.le_succ _⟩
        · exact .inr ⟨h1, by omega⟩
      · have ll := (inst1s_spec (vs := comps r) (id := id) (c := 0)).1
        rw [hu]
        by_cases ht : isTup r = true
        · cases r <;> simp [isTup] at ht
          rename_i vs
          simp only [isTup, if_true, retup]
          have := tup_slot fun c y hy => (pl.val c y hy).1
          rw [ll] at this
          exact Slot.mk1 rfl this
        · have hcr : comps r = [r] := by cases r <;> first | rfl | exact absurd rfl ht
          have hys : ∃ y, (inst1s id 0 (comps r)).1 = [y] := by
            rw [hcr] at ll ⊢
            match hh : (inst1s id 0 [r]).1, ll with
            | [y], _ => exact ⟨y, rfl⟩
          obtain ⟨y, hy⟩ := hys
          have hret : retup r (inst1s id 0 (comps r)).1 = y := by
            rw [hy]
            cases r <;> first | rfl | exact absurd rfl ht
          simp only [ht]
          rw [hret]
          exact (pl.val 0 y (by rw [hy]; rfl)).1
      · have mono : ∀ {y : V}, (∀ Un' : Nat → Prop, (∀ o, id ≤ o → o < id + (inst1s id 0 (comps r)).2.length → ¬ Un' o) → noNew (NewOf Un' (addRoots rt2 id (inst1s id 0 (comps r)).2)) y) → noNew (NewOf (less Un id) (addRoots rt2 id (inst1s id 0 (comps r)).2)) y := fun hn =>
          hn _ fun o h1 h2 h => h.2 ⟨h1, by omega⟩
        by_cases ht : isTup r = true
        · cases r <;> simp [isTup] at ht
          rename_i vs
          simp only [retup, noNew]
          refine noNews_iff.2 fun y hy => ?_
          obtain ⟨c, hc⟩ := List.mem_iff_getElem?.1 hy
          exact mono (pl.val c y hc).2
        · have ll := (inst1s_spec (vs := comps r) (id := id) (c := 0)).1
          have hcr : comps r = [r] := by cases r <;> first | rfl | exact absurd rfl ht
          have hys : ∃ y, (inst1s id 0 (comps r)).1 = [y] := by
            rw [hcr] at ll ⊢
            match hh : (inst1s id 0 [r]).1, ll with
            | [y], _ => exact ⟨y, rfl⟩
          obtain ⟨y, hy⟩ := hys
          have hret : retup r (inst1s id 0 (comps r)).1 = y := by
            rw [hy]
            cases r <;> first | rfl | exact absurd rfl ht
          rw [hret]
          exact mono (pl.val 0 y (by rw [hy]; rfl)).2
    · cases h
  · cases h
end Go.Ln
