/-
  A step by step reading of the printed code by values, proved sound once (part 2): no statement of the seat stands here.
-/
import Derived.Test.YtniljljgdoncpaaDoorLnA
set_option linter.unusedVariables false
set_option linter.unusedSimpArgs false
set_option linter.unusedSectionVars false
namespace Go.Ln
open Go
variable {w w' : World} {ρ ρ' ρ'' : Own} {rt rt' rt'' : Store} {N : Nat→Nat→Prop}
theorem rowOk_upd {o : Nat} {p0 : List (Nat × Nat)} {s : Nat} {es es' : List V} (h : RowOk w ρ rt (o, p0) s es) (hl : es'.length = es.length) (hs : ∀ (i : Nat) (e' : V), es'[i]? = some e' → (cells e').length = s)
    (hB : ∀ b arr T, ρ b = some (o, p0) → w.heap[b]? = some (.cells arr T (0, 0)) → ∃ arr', ρ' b = some (o, p0) ∧ w'.heap[b]? = some (.cells arr' T (0, 0)) ∧ ∀ (i : Nat) (e' : V) k y, es'[i]? = some e' → (cells e')[k]? = some y → ∃ z, arr'[i * s + k]? = some z ∧ RepV w' ρ' rt' (some (o, p0 ++ [(i, k)])) y z) :
    RowOk w' ρ' rt' (o, p0) s es' := by
  rcases h with rfl | ⟨b, arr, T, g, h1, h2, h3, h4, h5⟩
  · exact .inl (List.length_eq_zero_iff.1 (by simpa using hl))
  · obtain ⟨arr', q1, q2, q3⟩ := hB b arr T h1 h2
    refine .inr ⟨b, arr', T, fun i k => arr'.getD (i * s + k) undef, q1, q2, hs, fun i e k x he hx => ?_, fun i e k x he hx => ?_⟩
    · obtain ⟨z, hz, _⟩ := q3 i e k x he hx
      have hlt := (Array.getElem?_eq_some_iff.1 hz).1
      simp [Array.getD, hlt]
    · obtain ⟨z, hz, hr⟩ := q3 i e k x he hx
      obtain ⟨hlt, e1⟩ := Array.getElem?_eq_some_iff.1 hz
      simp only [Array.getD, hlt, dif_pos, Loc.at]
      rw [show arr'.getInternal (i * s + k) hlt = z from e1]
      exact hr
def under (p : List (Nat × Nat)) (i k n : Nat) (l : List (Nat × Nat)) : Prop:=∃ j t,j < n ∧ l=p ++ (i,k + j) :: t
open Classical in
noncomputable def putOwn (ρ : Own) (q o : Nat) (p : List (Nat × Nat)) (i k n : Nat) : Own := fun b =>
  match ρ b with
  | none => none
  | some (o', l) => if o' = q then (match l with
      | (_, j) :: t => some (o, p ++ (i, k + j) :: t)
      | [] => none) else if o' = o ∧ under p i k n l then none else some (o', l)
theorem putOwn_none {q o p i k n b} (h : ρ b=none) : putOwn ρ q o p i k n b=none:=by simp [putOwn,h]
theorem putOwn_moved {q o p i k n b i0 j t} (h : ρ b=some (q,(i0,j) :: t)) : putOwn ρ q o p i k n b=some (o,p ++ (i,k + j) :: t):=by simp [putOwn,h]
theorem putOwn_other {q o p i k n b o' l} (h : ρ b=some (o',l)) (hq : o' ≠ q) (hu : ¬ (o'=o ∧ under p i k n l)) : putOwn ρ q o p i k n b=some (o',l):=by
  simp only [putOwn,h,hq,if_false]
  rw [if_neg hu]
theorem putOwn_inv {q o p i k n b o' l} (h : putOwn ρ q o p i k n b=some (o',l)) : (∃ i0 j t,ρ b=some (q,(i0,j) :: t) ∧ o'=o ∧ l=p ++ (i,k + j) :: t) ∨ (o' ≠ q ∧ ρ b=some (o',l) ∧ ¬ (o'=o ∧ under p i k n l)):=by
  unfold putOwn at h
  split at h
  · cases h
  · rename_i o1 l1 hb
    split at h
    · rename_i hq
      subst hq
      split at h
      · rename_i i0 j t
        cases h
        exact .inl ⟨i0,j,t,hb,rfl,rfl⟩
      · cases h
    · rename_i hq
      split at h
      · cases h
      · rename_i hu
        cases h
        exact .inr ⟨hq,hb,hu⟩
theorem seg_get {xs ys : List V} {k n k' : Nat} (hn : ys.length=n) (hk : k + n ≤ xs.length) : (xs.take k ++ ys ++ xs.drop (k + n))[k']?=if k ≤ k' ∧ k' < k + n then ys[k' - k]? else xs[k']?:=by
  split
  · rename_i h
    rw [List.append_assoc,List.getElem?_append_right (by simp; omega),List.getElem?_append_left (by simp; omega)]
    congr 1
    simp
    omega
  · rename_i h
    by_cases h2 : k' < k
    · rw [List.append_assoc,List.getElem?_append_left (by simp; omega),List.getElem?_take,if_pos h2]
    · rw [List.getElem?_append_right (by simp; omega),List.getElem?_drop]
      congr 1
      simp
      omega
theorem seg_get' {xs ys : List Value} {k n k' : Nat} (hn : ys.length=n) (hk : k + n ≤ xs.length) : (xs.take k ++ ys ++ xs.drop (k + n))[k']?=if k ≤ k' ∧ k' < k + n then ys[k' - k]? else xs[k']?:=by
  split
  · rename_i h
    rw [List.append_assoc,List.getElem?_append_right (by simp; omega),List.getElem?_append_left (by simp; omega)]
    congr 1
    simp
    omega
  · rename_i h
    by_cases h2 : k' < k
    · rw [List.append_assoc,List.getElem?_append_left (by simp; omega),List.getElem?_take,if_pos h2]
    · rw [List.getElem?_append_right (by simp; omega),List.getElem?_drop]
      congr 1
      simp
      omega
def putCells (e : V) (k n : Nat) (ys : List V) : V :=
  let cs':=(cells e).take k ++ ys ++ (cells e).drop (k + n)
  if isAggV e then .agg cs' else cs'.headD .dead
theorem putCells_get {e : V} {k n k' : Nat} {ys : List V} (hn : ys.length=n) (hk : k + n ≤ (cells e).length) (h0 : 0 < n) (hc : ys.all cellV=true) : (cells (putCells e k n ys))[k']?=if k ≤ k' ∧ k' < k + n then ys[k' - k]? else (cells e)[k']?:=by
  unfold putCells
  by_cases ha : isAggV e=true
  · simp only [ha,if_true]
    exact seg_get hn hk
  · have ha' : isAggV e=false:=by simpa using ha
    have hce:=cells_one ha'
    rw [hce] at hk
    have hk0 : k=0:=by simp at hk; omega
    have hn1 : n=1:=by simp at hk; omega
    subst hk0
    match ys,hn with
    | [y],hn =>
      subst hn1
      have hy : cellV y=true:=by simpa using hc
      have hya : isAggV y=false:=by cases y <;> first | rfl | exact absurd hy (by simp [cellV])
      simp only [ha',hce]
      simp only [List.take_zero,List.nil_append,List.cons_append,Bool.false_eq_true,if_false,List.headD_cons,cells_one hya]
      cases k' <;> simp
    | [],hn=>simp at hn; omega
    | _ :: _ :: _,hn=>simp at hn; omega
theorem putCells_len {e : V} {k n : Nat} {ys : List V} (hn : ys.length=n) (hk : k + n ≤ (cells e).length) (h0 : 0 < n) (hc : ys.all cellV=true) : (cells (putCells e k n ys)).length=(cells e).length:=by
  unfold putCells
  by_cases ha : isAggV e=true
  · simp only [ha,if_true]
    rw [show ∀ cs,cells (.agg cs)=cs from fun _=>rfl]
    simp [hn]
    omega
  · have ha' : isAggV e=false:=by simpa using ha
    have hce:=cells_one ha'
    rw [hce] at hk
    have hk0 : k=0:=by simp at hk; omega
    have hn1 : n=1:=by simp at hk; omega
    subst hk0
    match ys,hn with
    | [y],hn =>
      subst hn1
      have hy : cellV y=true:=by simpa using hc
      have hya : isAggV y=false:=by cases y <;> first | rfl | exact absurd hy (by simp [cellV])
      simp only [ha',hce]
      simp [cells_one hya]
    | [],hn=>simp at hn; omega
    | _ :: _ :: _,hn=>simp at hn; omega
theorem putCells_nh {e : V} {k n : Nat} {ys : List V} (he : nh e) (hy : nhs ys) : nh (putCells e k n ys):=by
  have hcs : nhs ((cells e).take k ++ ys ++ (cells e).drop (k + n)):=nhs_iff.2 fun x hx=>by
    have h1:=nhs_iff.1 (nh_cells he)
    simp only [List.mem_append] at hx
    rcases hx with (hx | hx) | hx
    · exact h1 x (List.mem_of_mem_take hx)
    · exact nhs_iff.1 hy x hx
    · exact h1 x (List.mem_of_mem_drop hx)
  unfold putCells
  simp only
  split
  · simpa [nh] using hcs
  · cases h : ((cells e).take k ++ ys ++ (cells e).drop (k + n)) with
    | nil=>simp [nh]
    | cons x xs=>rw [h] at hcs; exact hcs.1
section
variable {P : Program} {E : Env} (A : Agree P E) {st : St} {a : Act} {o : Oper} (H : RtOk w ρ st.rt) (J : Inj ρ) (T : TmOk w ρ st.rt st.tm a.tmps) (hr : RtN st.rt) (hL : Lab w ρ st.rt noU) {Un : Nat→Prop} {id : Nat} (hm : TmN (NewOf Un st.rt) st.tm) (hi : Fresh Un st.rt id)
include A H J T hr hL hm hi
theorem n_store {t : TypeId} {p x : Operand} {v : V} {rt' : Store} (ho : o.op = .store t p x) (h : opV E id st o.op = some (v, rt')) :
    ∃ w', (execOp a.eval o).run P w = .ok .skip w' ∧ Out Un w ρ st.rt id v rt' undef w' := by
  rw [ho] at h
  simp only [opV, Option.bind_eq_some_iff, Option.map_eq_some_iff] at h
  obtain ⟨pv, hp, xv, hx, rt2, h, hh⟩ := h
  cases hh
  unfold storeV at h
  split at h
  · rename_i o1 nv path s i k
    simp only [Option.bind_eq_some_iff] at h
    obtain ⟨ti, hti, ⟨y, rt1⟩, hy, h⟩ := h
    split at h
    · rename_i hc
      obtain ⟨c1, c2, c0⟩ := hc
      simp only at c1 c2
      simp only [Option.bind_eq_some_iff] at h
      obtain ⟨r, hval, ⟨s1, z⟩, hz, h⟩ := h
      split at h
      · rename_i hs1
        simp only at hs1
        subst hs1
        simp only [Option.bind_eq_some_iff] at h
        obtain ⟨e, he, h⟩ := h
        split at h
        · rename_i hk
          simp only [Option.map_eq_some_iff] at h
          obtain ⟨es, hes, h⟩ := h
          have hid := hi.at
          obtain ⟨ρ1, ab, sl, yn, ya, yl, yc⟩ := absorb_ok (N := NewOf Un st.rt) (i := 0) H J hr hL (q := id) (fun j l h => absurd hi.p (by simp only [noU] at h; omega)) (Nat.ne_of_gt hi.p) hid (ev_rep T hx) (ev_nn hm hx) hy
          have hnp := ev_nn hm hp
          simp only [noNew] at hnp
          obtain ⟨hro, hvv⟩ := valid_some hval
          have hlive1 : live rt1 o1 nv path := by simp [live, look, hval, hz]
          obtain ⟨hlive, hkb⟩ := ab.keep.k2 o1 nv path hnp hlive1
          have hpr := Slot.one rfl (ev_rep T hp)
          have hne : o1 ≠ id := by
            rintro rfl
            rw [ab.gone hid] at hro
            cases hro
          obtain ⟨b, n, hb, hbl, hu⟩ : ∃ b n, ρ b = some (o1, path) ∧ Blk w b n ∧ a.eval p = .pointer (some ⟨b, i * s1 + k, none⟩) := by
            generalize a.eval p = up at hpr
            cases hpr with
            | hp _ _ _ _ _ _ _ _ hh _ => exact hh hlive
          obtain ⟨hb1, arr, TT, hbb, hsz⟩ := hkb b n hb hbl
          have hrow := rowOk_path (p0 := []) (ab.rok o1 r hro) hz
          simp only [List.nil_append] at hrow
          have hzn : nhs z := rowAt_nh (ab.rtn o1 r hro) hz
          have hen := nhs_get hzn he
          have hil := (List.getElem?_eq_some_iff.1 he).1
          obtain ⟨g, hg⟩ : ∃ g : Nat → Nat → Value, (∀ (i : Nat) (e : V), z[i]? = some e → (cells e).length = s1) ∧ (∀ (i : Nat) (e : V) k x, z[i]? = some e → (cells e)[k]? = some x → arr[i * s1 + k]? = some (g i k)) ∧
              (∀ (i : Nat) (e : V) k x, z[i]? = some e → (cells e)[k]? = some x → RepV w ρ1 rt1 (some (o1, path ++ [(i, k)])) x (g i k)) := by
            rcases hrow with rfl | ⟨b', arr', T', g, h1, h2, h3, h4, h5⟩
            · simp at he
            · have := ab.inj b b' _ hb1 h1
              subst this
              rw [hbb] at h2
              cases h2
              exact ⟨g, h3, h4, h5⟩
          obtain ⟨hg1, hg2, hg3⟩ := hg
          have hes1 := hg1 i e he
          -- what is written
          have hcu : ∀ (j : Nat) c, (cells y)[j]? = some c → (a.eval x).cells[j]? = some ((a.eval x).cells.getD j undef) ∧ RepV w ρ1 rt1 (some (id, [(0, j)])) c ((a.eval x).cells.getD j undef) := fun j c hj => slot_g sl yc hj
          have hun : (a.eval x).cells.size = ti.size := by
            obtain ⟨g', _, hg', _⟩ := slot_vcells sl yc
            rw [hg', arrOf_size]
            exact c1
          have hone : ∀ u ∈ (a.eval x).cells.toList, u.oneCell' = true := by
            intro u hu'
            obtain ⟨j, hj⟩ := List.mem_iff_getElem?.1 hu'
            have hjl := (List.getElem?_eq_some_iff.1 hj).1
            simp only [Array.length_toList, hun] at hjl
            have hcj : (cells y)[j]? = some ((cells y)[j]'(by omega)) := List.getElem?_eq_getElem _
            obtain ⟨q1, q2⟩ := hcu j _ hcj
            simp only [Array.getElem?_toList] at hj
            rw [hj] at q1
            have := rep_one q2 (List.all_eq_true.1 yc _ (List.mem_of_getElem? hcj))
            rw [← Option.some.inj q1] at this
            cases u <;> first | rfl | exact this.elim
          have hfit : i * s1 + k + ti.size ≤ arr.size := by
            have : (cells e)[k + ti.size - 1]? = some ((cells e)[k + ti.size - 1]'(by omega)) := List.getElem?_eq_getElem _
            have := (Array.getElem?_eq_some_iff.1 (hg2 i e _ _ he this)).1
            omega
          have hrun := run_storeCells_at P b (i * s1 + k) TT (a.eval x).cells.toList 0 arr w hbb (by simp [hun]; omega) hone
          simp only [Nat.add_zero, Array.length_toList, hun] at hrun
          generalize harr' : (arr.toList.take (i * s1 + k) ++ (a.eval x).cells.toList ++ arr.toList.drop (i * s1 + k + ti.size)).toArray = arr' at hrun
          have hget' : ∀ j, arr'[j]? = if i * s1 + k ≤ j ∧ j < i * s1 + k + ti.size then (a.eval x).cells[j - (i * s1 + k)]? else arr[j]? := fun j => by
            rw [← harr', List.getElem?_toArray, seg_get' (n := ti.size) (by simp [hun]) (by simpa using hfit)]
            simp
          have hsz' : arr'.size = arr.size := by rw [← harr']; simp [hun]; omega
          have hw1 := setRow_heap w b arr arr' TT (0, 0) hbb
          have hw2 : ∀ c, c ≠ b → (w.setRow b arr').heap[c]? = w.heap[c]? := fun c hc => setRow_other w b c arr' hc
          refine ⟨w.setRow b arr', ?_, putOwn ρ1 id o1 path i k ti.size, ?_, Slot.mk1 rfl (.und _), by simp [noNew]⟩
          · have hsz2 : (sizeOf t).run P w = .ok ti.size w := run_sizeOf' A hti w
            simp only [execOp, ho, hu, Instr.storeAt, Instr.sureAddr, storeVar, Sem.run_bind, Sem.run_pure, Result.andThen, hsz2, hun]
            simp [hrun]
          -- the store behind it
          generalize hnv' : (if (((((cells e).drop k).take ti.size).all plainV && (cells y).all plainV) = true) then r.nv else r.nv + 1) = nv' at h
          have hpc : (if isAggV e = true then V.agg ((cells e).take k ++ cells y ++ (cells e).drop (k + ti.size)) else ((cells e).take k ++ cells y ++ (cells e).drop (k + ti.size)).headD .dead) = putCells e k ti.size (cells y) := rfl
          simp only [hpc] at hes
          have hk' : k + ti.size ≤ (cells e).length := hk
          subst h
          generalize hE : putCells e k ti.size (cells y) = e' at hes
          have hel : (cells e').length = (cells e).length := by rw [← hE]; exact putCells_len c1 hk' c0 yc
          have heg : ∀ k', (cells e')[k']? = if k ≤ k' ∧ k' < k + ti.size then (cells y)[k' - k]? else (cells e)[k']? := fun k' => by rw [← hE]; exact putCells_get c1 hk' c0 yc
          have hen' : nh e' := by rw [← hE]; exact putCells_nh hen (nh_cells yn)
          have hlabid : ∀ c l, ρ1 c = some (id, l) → ∃ j t, l = (0, j) :: t ∧ j < ti.size := by
            intro c l hl
            rcases (ab.lab c id l hl).2 with (h1 | ⟨_, j, h1, t, h2⟩) | ⟨r, h1⟩
            · exact absurd hi.p (by simp only [noU] at h1; omega)
            · refine ⟨j, t, by rw [← h2]; simp, by rw [← c1, yl]; exact h1⟩
            · rw [ab.gone hid] at h1; cases h1
          have ho0 : 0 ≠ o1 := by rintro rfl; rw [ab.lab.z] at hro; cases hro
          have hund : ∀ l, ¬ path <+: l → ¬ under path i k ti.size l := by
            rintro l hl ⟨j, t, _, rfl⟩
            exact hl (List.prefix_append _ _)
          have hneb : ∀ c l, ρ1 c = some (o1, l) → l ≠ path → c ≠ b := by
            rintro c l h1 h2 rfl
            rw [hb1] at h1
            cases h1
            exact h2 rfl
          have hneb' : ∀ c o' l, ρ1 c = some (o', l) → o' ≠ o1 → c ≠ b := by
            rintro c o' l h1 h2 rfl
            rw [hb1] at h1
            cases h1
            exact h2 rfl
          have hselfu : ¬ under path i k ti.size path := by
            rintro ⟨j, t, _, h1⟩
            have := congrArg List.length h1
            simp at this
          have blk : ∀ c n, Blk w c n → Blk (w.setRow b arr') c n := by
            intro c n hcb
            by_cases hcb2 : c = b
            · subst hcb2
              obtain ⟨arr2, T2, q1, q2⟩ := hcb
              rw [hbb] at q1
              cases q1
              exact ⟨arr', _, hw1, by rw [hsz', q2]⟩
            · obtain ⟨arr2, T2, q1, q2⟩ := hcb
              exact ⟨arr2, T2, by rw [hw2 c hcb2]; exact q1, q2⟩
          have K : Keep (NewOf Un st.rt) w ρ1 rt1 (w.setRow b arr') (putOwn ρ1 id o1 path i k ti.size) (upd rt1 o1 (some { nv := nv', s := r.s, es := es })) := by
            refine ⟨fun c hc hlt => ⟨putOwn_none hc, hw2 c (by rintro rfl; rw [hb1] at hc; cases hc)⟩, fun o' nv2 p' hN hl => ?_, fun c l hc => ⟨putOwn_other hc (by have := hi.p; omega) (by simp [ho0]), hw2 c (hneb' _ _ _ hc ho0)⟩⟩
            by_cases ho' : o' = o1
            · subst ho'
              have hl2 : (p' = [] ∨ nv' = nv2) ∧ (rowAt p' r.s es).isSome = true := by
                unfold live look at hl
                cases hvv' : valid (upd rt1 o' (some { nv := nv', s := r.s, es := es })) o' nv2 p' with
                | none => simp [hvv'] at hl
                | some r2 =>
                  obtain ⟨h1, h2⟩ := valid_some hvv'
                  simp [upd] at h1
                  subst h1
                  simp only [hvv', Option.bind_some] at hl
                  exact ⟨h2, hl⟩
              have hnb : nv2 ≤ r.nv := by
                obtain ⟨r0, h1, h2, _⟩ := ab.nv o' r hro
                rw [h2]
                exact Nat.le_of_not_lt fun hlt => hN (.inr ⟨r0, h1, hlt⟩)
              have key : live rt1 o' nv2 p' ∧ ¬ under path i k ti.size p' := by
                by_cases hp' : p' = []
                · subst hp'
                  refine ⟨by simp [live, look, valid, hro, rowAt], ?_⟩
                  rintro ⟨j, t, _, h1⟩
                  have := congrArg List.length h1
                  simp at this
                · have hnv2 := hl2.1.resolve_left hp'
                  split at hnv'
                  · rename_i hpl
                    simp only [Bool.and_eq_true] at hpl
                    have hyp : ∀ (j : Nat) c, (cells y)[j]? = some c → plainV c = true := fun j c hj => List.all_eq_true.1 hpl.2 c (List.mem_of_getElem? hj)
                    have hnewrow : ∀ t, (rowAt t s1 (z.set i e')).isSome = true → (rowAt t s1 z).isSome = true ∧ ¬ under [] i k ti.size t := by
                      intro t ht
                      match t, ht with
                      | [], _ => exact ⟨by simp [rowAt], by rintro ⟨j, t, _, h1⟩; cases h1⟩
                      | (i', k') :: t', ht =>
                        simp only [rowAt] at ht ⊢
                        by_cases hii : i' = i
                        · subst hii
                          simp only [List.getElem?_set_self hil, heg] at ht
                          by_cases hin : k ≤ k' ∧ k' < k + ti.size
                          · simp only [hin, and_self, if_true] at ht
                            cases hcy : (cells y)[k' - k]? with
                            | none => simp [hcy] at ht
                            | some c =>
                              simp only [hcy] at ht
                              have := hyp _ c hcy
                              cases c <;> first | (simp at ht; done) | (simp [plainV] at this; done)
                          · simp only [hin, if_false] at ht
                            refine ⟨by simpa [he] using ht, ?_⟩
                            rintro ⟨j, t, hj, h1⟩
                            simp at h1
                            omega
                        · rw [List.getElem?_set_ne (by omega)] at ht
                          refine ⟨ht, ?_⟩
                          rintro ⟨j, t, hj, h1⟩
                          simp at h1
                          exact hii h1.1.1
                    have h1 := live_set (fun t ht => (hnewrow t ht).1) hz hes hl2.2
                    refine ⟨by simp [live, look, valid, hro, hnv2 ▸ hnv', h1], ?_⟩
                    rintro ⟨j, t, hj, rfl⟩
                    have := hl2.2
                    rw [rowAt_set_append hz hes] at this
                    exact (hnewrow _ this).2 ⟨j, t, hj, rfl⟩
                  · exfalso
                    omega
              refine ⟨key.1, fun c n hc hcb => ⟨putOwn_other hc hne (by simp [key.2]), blk c n hcb⟩⟩
            · refine ⟨by simpa [live, look, valid, upd, ho'] using hl, fun c n hc hcb => ?_⟩
              have ho2 : o' ≠ id := by
                rintro rfl
                exact hN (.inl hi.uid)
              exact ⟨putOwn_other hc ho2 (by simp [ho']), blk c n hcb⟩
          have hnewR : RowOk (w.setRow b arr') (putOwn ρ1 id o1 path i k ti.size) (upd rt1 o1 (some { nv := nv', s := r.s, es := es })) (o1, path) s1 (z.set i e') := by
            refine rowOk_upd (rowOk_path (p0 := []) (ab.rok o1 r hro) hz) (by simp) ?_ ?_
            · intro i' x' hx'
              by_cases hii : i' = i
              · subst hii
                rw [List.getElem?_set_self hil] at hx'
                cases hx'
                rw [hel]; exact hes1
              · rw [List.getElem?_set_ne (by omega)] at hx'
                exact hg1 _ _ hx'
            · intro b2 arr2 T2 hb2 hh2
              have := ab.inj b b2 _ hb1 hb2
              subst this
              rw [hbb] at hh2
              cases hh2
              refine ⟨arr', putOwn_other hb1 hne (by simp [hselfu]), hw1, ?_⟩
              have old : ∀ (i' k' : Nat) x' c, z[i']? = some x' → (cells x')[k']? = some c → ¬ (i' = i ∧ k ≤ k' ∧ k' < k + ti.size) → ∃ u, arr'[i' * s1 + k']? = some u ∧ RepV (w.setRow b arr') (putOwn ρ1 id o1 path i k ti.size) (upd rt1 o1 (some { nv := nv', s := r.s, es := es })) (some (o1, path ++ [(i', k')])) c u := by
                intro i' k' x' c hx' hc' hnin
                refine ⟨g i' k', ?_, ?_⟩
                · rw [hget', if_neg]
                  · exact hg2 i' x' k' c hx' hc'
                  · rintro ⟨q1, q2⟩
                    have hk1 := (List.getElem?_eq_some_iff.1 hc').1
                    rw [hg1 i' x' hx'] at hk1
                    by_cases hii : i' = i
                    · subst hii
                      exact hnin ⟨rfl, by omega, by omega⟩
                    · rcases Nat.lt_or_gt_of_ne hii with h1 | h1
                      · have : (i' + 1) * s1 ≤ i * s1 := Nat.mul_le_mul_right _ h1
                        rw [Nat.succ_mul] at this
                        omega
                      · have : (i + 1) * s1 ≤ i' * s1 := Nat.mul_le_mul_right _ h1
                        rw [Nat.succ_mul] at this
                        omega
                · refine RepV.under K (fun c' l hl hpre => ?_) (hg3 i' x' k' c hx' hc') (nh_cell (nhs_get hzn hx') hc')
                  obtain ⟨t, rfl⟩ := hpre
                  refine ⟨putOwn_other hl hne ?_, hw2 _ (hneb _ _ hl (by intro hq; have := congrArg List.length hq; simp at this))⟩
                  rintro ⟨_, j, t', hj, h1⟩
                  simp only [List.append_assoc, List.cons_append, List.nil_append, List.append_cancel_left_eq] at h1
                  injection h1 with h1 _
                  injection h1 with h1 h2
                  exact hnin ⟨h1, by omega, by omega⟩
              intro i' x' k' c hx' hc'
              by_cases hii : i' = i
              · subst hii
                rw [List.getElem?_set_self hil] at hx'
                cases hx'
                rw [heg] at hc'
                split at hc'
                · rename_i hin
                  obtain ⟨q1, q2⟩ := hcu _ c hc'
                  refine ⟨_, by rw [hget', if_pos (by omega), show i' * s1 + k' - (i' * s1 + k) = k' - k by omega]; exact q1, ?_⟩
                  have := q2.mono K (fun l => (o1, path ++ match l.2 with
                      | (_, j) :: t => (i', k + j) :: t
                      | [] => [])) (fun l => l.1 = id ∧ ∃ t, l.2 = (0, k' - k) :: t)
                    (fun l i2 k2 hl => by
                      obtain ⟨_, t, ht⟩ := hl
                      simp [Loc.at, ht])
                    (fun l i2 k2 hl => ⟨hl.1, by obtain ⟨_, t, ht⟩ := hl; exact ⟨t ++ [(i2, k2)], by simp [Loc.at, ht]⟩⟩)
                    (fun c' l hl hcl => by
                      obtain ⟨l1, l2⟩ := l
                      obtain ⟨rfl, t, ht⟩ := hl
                      simp only at ht
                      subst ht
                      exact ⟨putOwn_moved hcl, hw2 _ (hneb' _ _ _ hcl (Ne.symm hne))⟩)
                    (fun l hl => by cases hl; exact ⟨rfl, [], rfl⟩) (nh_noNew (nh_cell yn hc'))
                  simp only [Option.map_some] at this
                  rwa [show k + (k' - k) = k' by omega] at this
                · rename_i hin
                  exact old i' k' e c he hc' (by rintro ⟨_, h2⟩; exact hin h2)
              · rw [List.getElem?_set_ne (by omega)] at hx'
                exact old i' k' x' c hx' hc' (by rintro ⟨h1, _⟩; exact hii h1)
          have J' : Inj (putOwn ρ1 id o1 path i k ti.size) := by
            rintro c c' ⟨o', l⟩ h1 h2
            rcases putOwn_inv h1 with ⟨i0, j, t, q1, q2, q3⟩ | ⟨q1, q2, q3⟩ <;> rcases putOwn_inv h2 with ⟨i0', j', t', r1, r2, r3⟩ | ⟨r1, r2, r3⟩
            · subst q3
              simp only [List.append_cancel_left_eq] at r3
              injection r3 with r3 r4
              injection r3 with r3 r5
              subst r4
              have : j = j' := by omega
              subst this
              obtain ⟨_, _, e1, _⟩ := hlabid _ _ q1
              obtain ⟨_, _, e2, _⟩ := hlabid _ _ r1
              cases e1
              cases e2
              exact ab.inj _ _ _ q1 r1
            · exfalso
              obtain ⟨j2, t2, e1, e2⟩ := hlabid _ _ q1
              cases e1
              exact r3 ⟨q2, j, t, e2, q3⟩
            · exfalso
              obtain ⟨j2, t2, e1, e2⟩ := hlabid _ _ r1
              cases e1
              exact q3 ⟨r2, j', t', e2, r3⟩
            · exact ab.inj _ _ _ q2 r2
          refine ⟨?_, J', ?_, ab.keep.trans K (Nat.le_refl _), ?_, ⟨rfl, rfl, rfl, by simp, blk⟩, ?_, fun c l hc => ab.f0 c l (by
            rcases putOwn_inv hc with ⟨_, _, _, _, q2, _⟩ | ⟨_, q2, _⟩
            · exact absurd q2 ho0
            · exact q2)⟩
          · intro o' r' hr'
            by_cases ho' : o' = o1
            · subst ho'
              simp [upd] at hr'
              subst hr'
              refine rowOk_set (p0 := []) K J' (by simp) (ab.rok o' r hro) (ab.rtn o' r hro) hz hes (fun c l hc _ hl => ?_) (fun c arr2 T2 hc hh => ?_) (by simpa using hnewR)
              · simp only [List.nil_append] at hl
                exact ⟨putOwn_other hc hne (by rintro ⟨_, h2⟩; exact hund l hl h2), hw2 _ (hneb _ _ hc (by rintro rfl; exact hl (List.prefix_refl _)))⟩
              · simp only [List.nil_append] at hc
                have := ab.inj b c _ hb1 hc
                subst this
                rw [hbb] at hh
                cases hh
                exact ⟨putOwn_other hb1 hne (by simp [hselfu]), arr', _, hw1, hsz'⟩
            · simp [upd, ho'] at hr'
              have ho2 : o' ≠ id := by
                rintro rfl
                rw [ab.gone hid] at hr'
                cases hr'
              exact RowOk.under K (fun c l hc _ => ⟨putOwn_other hc ho2 (by simp [ho']), hw2 _ (hneb' _ _ _ hc ho')⟩) (ab.rok o' r' hr') (ab.rtn o' r' hr')
          · intro o' r' hr'
            by_cases ho' : o' = o1
            · simp [upd, ho'] at hr'
              subst hr'
              exact setRow_nh (set_nh hzn hen') (ab.rtn o1 r hro) hes
            · simp [upd, ho'] at hr'
              exact ab.rtn o' r' hr'
          · refine ⟨fun c o' l hc => ?_, by simp [upd, ho0, ab.lab.z], fun c l hc => ?_⟩
            rotate_left
            · rcases putOwn_inv hc with ⟨_, _, _, _, q2, _⟩ | ⟨_, q2, _⟩
              · exact absurd q2 ho0
              · exact ab.lab.f _ _ q2
            rcases putOwn_inv hc with ⟨i0, j, t, q1, q2, q3⟩ | ⟨q1, q2, q3⟩
            · refine ⟨by simpa using (ab.lab _ _ _ q1).1, .inr ?_⟩
              rw [q2]
              exact ⟨{ nv := nv', s := r.s, es := es }, by simp [upd]⟩
            · refine ⟨by simpa using (ab.lab _ _ _ q2).1, ?_⟩
              by_cases ho' : o' = o1
              · exact .inr ⟨{ nv := nv', s := r.s, es := es }, by simp [upd, ho']⟩
              · rcases (ab.lab _ _ _ q2).2 with (h4 | ⟨h4, _⟩) | ⟨r2, h4⟩
                · exact .inl h4
                · exact absurd h4 q1
                · exact .inr ⟨r2, by simp [upd, ho', h4]⟩
          · intro o' r' hr'
            by_cases ho' : o' = o1
            · simp [upd, ho'] at hr'
              subst hr'
              subst ho'
              obtain ⟨r0, h1, h2, _⟩ := ab.nv o' r hro
              refine .inl ⟨r0, h1, ?_⟩
              have h2' : r.nv = r0.nv := h2
              have h3 : r.nv ≤ nv' := by
                rw [← hnv']
                split
                · exact Nat.le_refl _
                · exact Nat.le_succ _
              exact h2' ▸ h3
            · simp [upd, ho'] at hr'
              obtain ⟨r0, h1, h2, _⟩ := ab.nv o' r' hr'
              exact .inl ⟨r0, h1, by omega⟩
        · cases h
      · cases h
    · cases h
  · cases h
end
end Go.Ln
namespace Go.Ln
open Go
variable {w w' : World} {ρ ρ' ρ'' : Own} {rt rt' rt'' : Store} {N : Nat→Nat→Prop}
theorem imms_map : ∀ {vs : List V},imms vs=vs.map imm
  | []=>rfl
  | v :: vs=>by simp [imms,imms_map]
theorem cells_imm {e : V} : cells (imm e)=(cells e).map imm:=by
  cases e <;> simp [imm,cells,imms_map]
theorem imms_get {vs : List V} {i : Nat} : (imms vs)[i]?=(vs[i]?).map imm:=by rw [imms_map,List.getElem?_map]
theorem imms_len {vs : List V} : (imms vs).length=vs.length:=by rw [imms_map,List.length_map]
theorem cell_imm {e : V} {k : Nat} : (cells (imm e))[k]?=((cells e)[k]?).map imm:=by rw [cells_imm,List.getElem?_map]
mutual
theorem imm_nh : ∀ {v : V},nh v→nh (imm v)
  | .und,_=>by simp [imm,nh]
  | .dead,_=>by simp [imm,nh]
  | .bool _,_=>by simp [imm,nh]
  | .int _ _,_=>by simp [imm,nh]
  | .str _,_=>by simp [imm,nh]
  | .nilp,_=>by simp [imm,nh]
  | .nilfn,_=>by simp [imm,nh]
  | .nilif,_=>by simp [imm,nh]
  | .fn _ cs,h=>by simpa [imm] using h
  | .iface _ v,h=>by simpa [imm] using h
  | .agg cs,h=>by simp only [imm,nh] at h ⊢; exact imms_nh h
  | .tup cs,h=>by simpa [imm] using h
  | .iptr e _,h=>by simpa [imm] using h
  | .isl _ es,h=>by simpa [imm] using h
  | .uptr e,h=>by simp only [imm,nh] at h ⊢; exact imm_nh h
  | .usl _ es,h=>by simp only [imm,nh] at h ⊢; exact imms_nh h
  | .hp _ _ _ _ _ _,h=>by simp [nh] at h
  | .hs _ _ _ _ _ _,h=>by simp [nh] at h
theorem imms_nh : ∀ {vs : List V},nhs vs→nhs (imms vs)
  | [],_=>by simp [imms,nhs]
  | v :: vs,h=>by simp only [imms,nhs] at h ⊢; exact ⟨imm_nh h.1,imms_nh h.2⟩
end
def notOwn : V→Prop
  | .usl _ _=>False
  | .uptr _=>False
  | _=>True
theorem RepV.any {L L' : Option Loc} {v : V} {u : Value} (h : RepV w ρ rt L v u) (hv : notOwn v) : RepV w ρ rt L' v u:=h.place (by cases v <;> first | trivial | exact hv.elim)
theorem RepV.notOwn {v : V} {u : Value} (h : RepV w ρ rt none v u) : notOwn v:=by cases h <;> trivial
theorem RepV.anyN {L' : Option Loc} {v : V} {u : Value} (h : RepV w ρ rt none v u) : RepV w ρ rt L' v u:=h.any h.notOwn
theorem RepV.freeze (K : Keep N w ρ rt w' ρ' rt') {o : Nat} {L : Option Loc} {v : V} {u : Value} (h : RepV w ρ rt L v u) : ∀ q,L=some (o,q)→(∀ b l,ρ b=some (o,l)→q <+: l→ρ' b=none ∧ b < w'.heap.size ∧ w'.heap[b]?=w.heap[b]?)→nh v→RepV w' ρ' rt' none (imm v) u:=by
  induction h with
  | usl0 l s A=>exact fun q _ _ _=>by simpa [imm,imms] using RepV.isl0 (w:=w') (ρ:=ρ') (rt:=rt') none false A 0 (by simp)
  | usl l s es b A c arr T g hρ hb hl hA hcap hs hc h ih =>
    intro q hL hF hn
    cases hL
    by_cases h0 : es=[]
    · subst h0
      simpa [imm,imms] using RepV.isl0 (w:=w') (ρ:=ρ') (rt:=rt') none false A c (by simp)
    · have hpos : 0 < es.length:=List.length_pos_iff.2 h0
      obtain ⟨f1,f2,f3⟩:=hF b q hρ (List.prefix_refl _)
      rw [hA (by omega)]
      simp only [imm]
      rw [← imms_len (vs:=es)]
      refine .isl _ (imms es) b 0 c s g (by rw [imms_len]; exact hl) (by rw [imms_len]; exact hpos) f1 f2 ?_ ?_ ?_
      · intro i e he
        rw [imms_get] at he
        obtain ⟨e0,he0,rfl⟩:=Option.map_eq_some_iff.1 he
        rw [cells_imm,List.length_map]
        exact hs i e0 he0
      · intro i e k x he hx
        rw [imms_get] at he
        obtain ⟨e0,he0,rfl⟩:=Option.map_eq_some_iff.1 he
        rw [cell_imm] at hx
        obtain ⟨x0,hx0,rfl⟩:=Option.map_eq_some_iff.1 hx
        rw [cell_of_heap f3]
        simp only [World.cell?,hb,Nat.zero_add]
        exact hc i e0 k x0 he0 hx0
      · intro i e k x he hx
        rw [imms_get] at he
        obtain ⟨e0,he0,rfl⟩:=Option.map_eq_some_iff.1 he
        rw [cell_imm] at hx
        obtain ⟨x0,hx0,rfl⟩:=Option.map_eq_some_iff.1 hx
        exact ih i e0 k x0 he0 hx0 (q ++ [(i,k)]) rfl (fun b l hb hp=>hF b l hb ((List.prefix_append _ _).trans hp)) (nh_cell (nhs_get (by simpa [nh] using hn) he0) hx0)
  | uptr l e b arr T g hρ hb hc h ih =>
    intro q hL hF hn
    cases hL
    obtain ⟨f1,f2,f3⟩:=hF b q hρ (List.prefix_refl _)
    simp only [imm]
    refine .iptr _ (imm e) 0 b 0 g f2 f1 ?_ ?_
    · intro j x hx
      rw [Nat.zero_add,cell_imm] at hx
      obtain ⟨x0,hx0,rfl⟩:=Option.map_eq_some_iff.1 hx
      rw [cell_of_heap f3]
      simp only [World.cell?,hb,Nat.zero_add]
      exact hc j x0 hx0
    · intro j x hx
      rw [Nat.zero_add,cell_imm] at hx
      obtain ⟨x0,hx0,rfl⟩:=Option.map_eq_some_iff.1 hx
      exact ih j x0 hx0 (q ++ [(0,j)]) rfl (fun b l hb hp=>hF b l hb ((List.prefix_append _ _).trans hp)) (nh_cell (by simpa [nh] using hn) hx0)
  | und L=>exact fun _ _ _ _=>by simpa [imm] using RepV.und none
  | dead L u=>exact fun _ _ _ _=>by simpa [imm] using RepV.dead none u
  | bool L b=>exact fun _ _ _ _=>by simpa [imm] using RepV.bool none b
  | int L k n=>exact fun _ _ _ _=>by simpa [imm] using RepV.int none k n
  | str L s=>exact fun _ _ _ _=>by simpa [imm] using RepV.str none s
  | nilp L=>exact fun _ _ _ _=>by simpa [imm] using RepV.nilp none
  | nilfn L=>exact fun _ _ _ _=>by simpa [imm] using RepV.nilfn none
  | nilif L=>exact fun _ _ _ _=>by simpa [imm] using RepV.nilif none
  | fn L f caps g h ih=>exact fun _ _ _ hn=>by simpa [imm] using (RepV.fn none f caps g h).keep K (nh_noNew hn)
  | iface L t v g h ih=>exact fun _ _ _ hn=>by simpa [imm] using (RepV.iface none t v g h).keep K (nh_noNew hn)
  | tup L vs p g hp h ih=>exact fun _ _ _ hn=>by simpa [imm] using (RepV.tup none vs p g hp h).keep K (nh_noNew hn)
  | iptr L e k b off g hb hρ hc h ih=>exact fun _ _ _ hn=>by simpa [imm] using (RepV.iptr none e k b off g hb hρ hc h).keep K (nh_noNew hn)
  | isl0 L nl A c hn=>exact fun _ _ _ _=>by simpa [imm] using RepV.isl0 none nl A c hn
  | isl L es b off c s g hl h0 hρ hb hs hc h ih=>exact fun _ _ _ hn=>by simpa [imm] using (RepV.isl none es b off c s g hl h0 hρ hb hs hc h).keep K (nh_noNew hn)
  | hp L o nv path s i k u h h1=>exact fun _ _ _ hn=>by simp [nh] at hn
  | hs L o nv path s off len u h h1=>exact fun _ _ _ hn=>by simp [nh] at hn
theorem RowOk.freeze (K : Keep N w ρ rt w' ρ' rt') {o : Nat} {q : List (Nat × Nat)} {s : Nat} {es : List V} (h : RowOk w ρ rt (o, q) s es) (hF : ∀ b l, ρ b = some (o, l) → q <+: l → ρ' b = none ∧ b < w'.heap.size ∧ w'.heap[b]? = w.heap[b]?) (hn : nhs es) :
    es = [] ∨ ∃ b, ∃ g : Nat → Nat → Value, ρ b = some (o, q) ∧ ρ' b = none ∧ b < w'.heap.size ∧ (∀ (i : Nat) (e : V), (imms es)[i]? = some e → (cells e).length = s) ∧
      (∀ (i : Nat) (e : V) k x, (imms es)[i]? = some e → (cells e)[k]? = some x → w'.cell? ⟨b, i * s + k, none⟩ = some (g i k)) ∧
      (∀ (i : Nat) (e : V) k x, (imms es)[i]? = some e → (cells e)[k]? = some x → RepV w' ρ' rt' none x (g i k)) := by
  rcases h with h | ⟨b, arr, T, g, h1, h2, h3, h4, h5⟩
  · exact .inl h
  · obtain ⟨f1, f2, f3⟩ := hF b q h1 (List.prefix_refl _)
    refine .inr ⟨b, g, h1, f1, f2, ?_, ?_, ?_⟩
    · intro i e he
      rw [imms_get] at he
      obtain ⟨e0, he0, rfl⟩ := Option.map_eq_some_iff.1 he
      rw [cells_imm, List.length_map]
      exact h3 i e0 he0
    · intro i e k x he hx
      rw [imms_get] at he
      obtain ⟨e0, he0, rfl⟩ := Option.map_eq_some_iff.1 he
      rw [cell_imm] at hx
      obtain ⟨x0, hx0, rfl⟩ := Option.map_eq_some_iff.1 hx
      rw [cell_of_heap f3]
      simp only [World.cell?, h2]
      exact h4 i e0 k x0 he0 hx0
    · intro i e k x he hx
      rw [imms_get] at he
      obtain ⟨e0, he0, rfl⟩ := Option.map_eq_some_iff.1 he
      rw [cell_imm] at hx
      obtain ⟨x0, hx0, rfl⟩ := Option.map_eq_some_iff.1 hx
      exact (h5 i e0 k x0 he0 hx0).freeze K (q ++ [(i, k)]) rfl (fun b l hb hp => hF b l hb ((List.prefix_append _ _).trans hp)) (nh_cell (nhs_get hn he0) hx0)
theorem isl_part {b s c len off : Nat} {es : List V} {g : Nat → Nat → Value} {A : Option Addr} (f1 : ρ b = none) (f2 : b < w.heap.size) (h3 : ∀ (i : Nat) (e : V), es[i]? = some e → (cells e).length = s)
    (h4 : ∀ (i : Nat) (e : V) k x, es[i]? = some e → (cells e)[k]? = some x → w.cell? ⟨b, i * s + k, none⟩ = some (g i k))
    (h5 : ∀ (i : Nat) (e : V) k x, es[i]? = some e → (cells e)[k]? = some x → RepV w ρ rt none x (g i k)) (hlen : off + len ≤ es.length) (hlc : len ≤ c) (hA : len ≠ 0 → A = some ⟨b, off * s, none⟩) :
    RepV w ρ rt none (.isl false ((es.drop off).take len)) (.slice A len c) := by
  have hl : ((es.drop off).take len).length = len := by simp; omega
  have hget : ∀ (i : Nat) (e : V), ((es.drop off).take len)[i]? = some e → es[off + i]? = some e := fun i e he => by
    rw [List.getElem?_take] at he
    split at he
    · rwa [List.getElem?_drop] at he
    · cases he
  by_cases h0 : len = 0
  · subst h0
    simpa using RepV.isl0 none false A c (by simp)
  · rw [hA h0]
    have := RepV.isl (w := w) (ρ := ρ) (rt := rt) none ((es.drop off).take len) b (off * s) c s (fun i k => g (off + i) k) (by rw [hl]; exact hlc) (by rw [hl]; omega) f1 f2
      (fun i e he => h3 _ _ (hget i e he))
      (fun i e k x he hx => by
        have := h4 _ _ _ _ (hget i e he) hx
        rwa [Nat.add_mul, Nat.add_assoc] at this)
      (fun i e k x he hx => h5 _ _ _ _ (hget i e he) hx)
    rwa [hl] at this
theorem imms_part {es : List V} {off len : Nat} : imms ((es.drop off).take len)=((imms es).drop off).take len:=by simp [imms_map]
theorem share_ok (H : RtOk w ρ rt) (J : Inj ρ) (hr : RtN rt) (K : Keep N w ρ rt w ρ' rt') {v x : V} {u : Value} (h : share rt v = some x) (hv : RepV w ρ rt none v u) (hn : noNew N v)
    (hF : ∀ b o l, o ∈ ids v → ρ b = some (o, l) → ρ' b = none ∧ b < w.heap.size) : RepV w ρ' rt' none x u ∧ nh x := by
  unfold share at h
  split at h
  · rename_i o nv path s off len
    simp only [Option.bind_eq_some_iff] at h
    obtain ⟨⟨s1, es⟩, hl, h⟩ := h
    split at h
    · rename_i hc
      cases h
      simp only at hc
      obtain ⟨rfl, hc⟩ := hc
      have hes := look_nh hr hl
      refine ⟨?_, by simp only [nh]; exact imms_nh (nhs_iff.2 fun x hx => nhs_iff.1 hes x (List.mem_of_mem_drop (List.mem_of_mem_take hx)))⟩
      have hlive : live rt o nv path := by simp [live, hl]
      cases hv with
      | hs _ _ _ _ _ _ _ _ hh h1 =>
        obtain ⟨c, A, rfl, hlc, hcc⟩ := hh hlive
        simp only [imms_part]
        rcases (look_rep H hl).freeze K (fun b l hb _ => ⟨(hF b o l (by simp [ids]) hb).1, (hF b o l (by simp [ids]) hb).2, rfl⟩) hes with rfl | ⟨b, g, f0, f1, f2, f3, f4, f5⟩
        · have : len = 0 := by simp at hc; omega
          subst this
          simpa using RepV.isl0 none false A c (by simp)
        · refine isl_part (g := g) f1 f2 f3 f4 f5 (by rw [imms_len]; exact hc) hlc fun h0 => ?_
          obtain ⟨b', n, hb, _, hA, _⟩ := hcc (by omega)
          have := J _ _ _ f0 hb
          subst this
          exact hA
    · cases h
  · rename_i o nv path s i k
    simp only [Option.bind_eq_some_iff] at h
    obtain ⟨⟨s1, es⟩, hl, h⟩ := h
    have hs1 : s = s1 := by
      split at h
      · assumption
      · cases h
    subst hs1
    simp only [if_true, Option.map_eq_some_iff] at h
    obtain ⟨e, he, rfl⟩ := h
    have hes := look_nh hr hl
    refine ⟨?_, by simp only [nh]; exact imm_nh (nhs_get hes he)⟩
    have hlive : live rt o nv path := by simp [live, hl]
    cases hv with
    | hp _ _ _ _ _ _ _ _ hh h1 =>
      obtain ⟨b', n, hb, _, rfl⟩ := hh hlive
      rcases (look_rep H hl).freeze K (fun b l hb _ => ⟨(hF b o l (by simp [ids]) hb).1, (hF b o l (by simp [ids]) hb).2, rfl⟩) hes with rfl | ⟨b, g, f0, f1, f2, f3, f4, f5⟩
      · simp at he
      · have := J _ _ _ f0 hb
        subst this
        have hei : (imms es)[i]? = some (imm e) := by rw [imms_get, he]; rfl
        exact .iptr _ (imm e) k b (i * s + k) (fun j => g i (k + j)) f2 f1 (fun j x hx => by rw [Nat.add_assoc]; exact f4 i _ (k + j) x hei hx) fun j x hx => f5 i _ (k + j) x hei hx
  · cases h
    have hv' := hv.keep K hn
    refine ⟨?_, by simpa [nh, noNew] using hn⟩
    cases hv' with
    | isl0 _ _ A c _ => exact .isl0 _ _ A c (by simp)
    | isl _ _ b off c s g hl h0 hρ hb hs hc hh => exact .isl _ _ b off c s g hl h0 hρ hb hs hc hh
  · split at h
    · rename_i hp
      cases h
      exact ⟨hv.keep K hn, plain_nh hp hn⟩
    · cases h
end Go.Ln
namespace Go.Ln
open Go
variable {w w' : World} {ρ ρ' ρ'' : Own} {rt rt' rt'' : Store} {N : Nat→Nat→Prop}
theorem flat_row {es : List V} {s : Nat} {nv : Nat} {p : List (Nat × Nat)} (hf : es.all flatE=true) (h : (rowAt p s es).isSome=true) : p=[]:=by
  match p,h with
  | [],_=>rfl
  | (i,k) :: p,h =>
    exfalso
    simp only [rowAt] at h
    cases he : es[i]? with
    | none=>simp [he] at h
    | some e =>
      simp only [he] at h
      have h1:=List.all_eq_true.1 hf e (List.mem_of_getElem? he)
      cases hc : (cells e)[k]? with
      | none=>simp [hc] at h
      | some x =>
        have h2:=List.all_eq_true.1 (show (cells e).all plainV=true from h1) x (List.mem_of_getElem? hc)
        cases x <;> simp [hc] at h <;> simp [plainV] at h2
theorem plainRep {L L' : Option Loc} {v : V} {u : Value} (K : Keep N w ρ rt w' ρ' rt') (h : RepV w ρ rt L v u) (hp : plainV v=true) (hn : nh v) : RepV w' ρ' rt' L' v u:=by
  have hno : Ln.notOwn v:=by cases v <;> first | trivial | (simp [plainV] at hp)
  exact ((h.any (L':=none) hno).keep K (nh_noNew hn)).anyN
section
variable {P : Program} {E : Env} (A : Agree P E) {st : St} {a : Act} {o : Oper} (H : RtOk w ρ st.rt) (J : Inj ρ) (T : TmOk w ρ st.rt st.tm a.tmps) (hr : RtN st.rt) (hL : Lab w ρ st.rt noU) {Un : Nat→Prop} {id : Nat} (hm : TmN (NewOf Un st.rt) st.tm) (hi : Fresh Un st.rt id)
include A H J T hr hL hm hi
theorem n_clear {x : Operand} {xv : V} {t : TypeId} {ts : Array TypeId} {rt' : Store} (ho : o.op = .call { callee := .builtin .clear, args := #[x], argTypes := ts }) (ht : ts[0]? = some t) (hx : ev st x = some xv) (h : clearV E st.rt t xv = some rt') :
    ∃ u w', (execOp a.eval o).run P w = .ok (.value u) w' ∧ Out Un w ρ st.rt id (.tup []) rt' u w' := by
  have tup0 : ∀ {w' : World} {ρ' : Own} {rt' : Store}, Slot w' ρ' rt' nowhere (.tup []) (.tuple #[]) := fun {w' ρ' rt'} => Slot.mk1 rfl (.tup none [] (fun _ => undef) (fun _ _ => undef) (fun c v h => by simp at h) (fun c v k x h => by simp at h))
  have hxr := ev_rep T hx
  unfold clearV at h
  split at h
  · split at h
    · rename_i hs
      cases h
      obtain ⟨e, he⟩ : ∃ e, E.desc t = some (.slice e) := by
        unfold isSliceD at hs
        split at hs
        · rename_i e he; exact ⟨e, he⟩
        · cases hs
      have hu := A.desc he
      obtain ⟨A1, l, c, hev, _⟩ := isl_shape (Slot.one rfl hxr)
      have hl : l = 0 := by
        have := Slot.one rfl hxr
        rw [hev] at this
        cases this <;> first | rfl | (rename_i h0 _ _ _ _ _; simp at h0)
      subst hl
      refine ⟨.tuple #[], w, ?_, ρ, ⟨H, J, hr, Keep.refl, hL, Wk.refl, fun o r h => .inl ⟨r, h, Nat.le_refl _⟩, fun _ _ h => h⟩, tup0, by simp [noNew, noNews]⟩
      cases A1 <;> simp [execOp, ho, resolve, invoke, builtin, Builtin.clear_, ht, hev, run_underlying hu]
    · cases h
  · rename_i o1 nv s off len
    split at h
    · rename_i e sz bt zv htt
      simp only [Option.bind_eq_some_iff] at h
      obtain ⟨ei, hei, z, hz, r, hro, h⟩ := h
      split at h
      · rename_i hc
        obtain ⟨⟨rfl, c2, c3, c4⟩, c5⟩ := hc
        simp only [Bool.and_eq_true] at c5
        cases h
        have hu := A.und t _ htt
        simp only at hu
        have hp := Slot.one rfl hxr
        have hlive : live st.rt o1 nv [] := by simp [live, look, valid, hro, rowAt]
        obtain ⟨c, AA, hev, hlc, hcc⟩ : ∃ c AA, a.eval x = .slice AA len c ∧ len ≤ c ∧ (c ≠ 0 → ∃ b n, ρ b = some (o1, []) ∧ Blk w b n ∧ AA = some ⟨b, off * r.s, none⟩ ∧ (off + c) * r.s ≤ n) := by
          generalize a.eval x = up at hp
          cases hp with
          | hs _ _ _ _ _ _ _ _ hh _ => exact hh hlive
        generalize hes : r.es.take off ++ List.replicate len z ++ r.es.drop (off + len) = es'
        by_cases hlen : len = 0
        · subst hlen
          have hee : es' = r.es := by rw [← hes]; simp
          subst hee
          have hst : upd st.rt o1 (some ⟨r.nv, r.s, r.es⟩) = st.rt := by
            funext y
            by_cases hy : y = o1
            · subst hy; simp [upd, hro]
            · simp [upd, hy]
          rw [hst]
          refine ⟨.tuple #[], w, ?_, ρ, ⟨H, J, hr, Keep.refl, hL, Wk.refl, fun o r h => .inl ⟨r, h, Nat.le_refl _⟩, fun _ _ h => h⟩, tup0, by simp [noNew, noNews]⟩
          cases AA <;> simp [execOp, ho, resolve, invoke, builtin, Builtin.clear_, ht, hev, run_underlying hu]
        obtain ⟨b, n, hb, ⟨arr, TT, hbb, hsz⟩, rfl, hfit⟩ := hcc (by omega)
        obtain ⟨g, hg1, hg2, hg3⟩ : ∃ g : Nat → Nat → Value, (∀ (i : Nat) (e : V), r.es[i]? = some e → (cells e).length = r.s) ∧ (∀ (i : Nat) (e : V) k x, r.es[i]? = some e → (cells e)[k]? = some x → arr[i * r.s + k]? = some (g i k)) ∧
            (∀ (i : Nat) (e : V) k x, r.es[i]? = some e → (cells e)[k]? = some x → RepV w ρ st.rt (some (o1, [(i, k)])) x (g i k)) := by
          rcases H o1 r hro with h0 | ⟨b', arr', T', g, h1, h2, h3, h4, h5⟩
          · rw [h0] at c2; simp at c2; omega
          · have := J b b' _ hb h1
            subst this
            rw [hbb] at h2
            cases h2
            exact ⟨g, h3, h4, h5⟩
        have hzs := slot_cs (zeroV_rep (w := w) (ρ := ρ) (rt := st.rt) hz nowhere) (zeroV_cell hz)
        have hzc : ei.zv.cells.size = r.s := by rw [← hzs.1]; exact c3
        have hzcells : Builtin.zeroCells ei.zv.cells len = madeCells ei.zv.cells (len * r.s) := by simp [Builtin.zeroCells, madeCells, hzc]
        have hnsz : (Builtin.zeroCells ei.zv.cells len).toList.length = len * r.s := by rw [hzcells]; simp [size_madeCells]
        have hone : ∀ u ∈ (Builtin.zeroCells ei.zv.cells len).toList, u.oneCell' = true := by
          intro u hu'
          obtain ⟨j, hj⟩ := List.mem_iff_getElem?.1 hu'
          have hjl := (List.getElem?_eq_some_iff.1 hj).1
          rw [hnsz] at hjl
          have hd : j / r.s < len := Nat.div_lt_of_lt_mul (by rw [Nat.mul_comm]; exact hjl)
          have hm' : j % r.s < r.s := Nat.mod_lt _ c4
          have hdm : j / r.s * r.s + j % r.s = j := by rw [Nat.mul_comm]; exact Nat.div_add_mod j r.s
          have h2 := zeros_get (n := len) hzc hd hm'
          rw [hdm, ← hzcells] at h2
          simp only [Array.getElem?_toList] at hj
          rw [hj] at h2
          have hcz : (cells z)[j % r.s]? = some ((cells z)[j % r.s]'(by omega)) := List.getElem?_eq_getElem _
          have hr2 := hzs.2 _ _ _ hcz h2.symm
          have := rep_one hr2 (List.all_eq_true.1 (zeroV_cell hz) _ (List.mem_of_getElem? hcz))
          cases u <;> first | rfl | exact this.elim
        have hle : (off + len) * r.s ≤ arr.size := by
          have : (off + len) * r.s ≤ (off + c) * r.s := Nat.mul_le_mul_right _ (by omega)
          omega
        have hadd : (off + len) * r.s = off * r.s + len * r.s := Nat.add_mul ..
        have hrun := run_storeCells_at P b (off * r.s) TT (Builtin.zeroCells ei.zv.cells len).toList 0 arr w hbb (by rw [hnsz]; omega) hone
        simp only [Nat.add_zero, hnsz] at hrun
        generalize harr' : (arr.toList.take (off * r.s) ++ (Builtin.zeroCells ei.zv.cells len).toList ++ arr.toList.drop (off * r.s + len * r.s)).toArray = arr' at hrun
        have hget' : ∀ j, arr'[j]? = if off * r.s ≤ j ∧ j < off * r.s + len * r.s then (Builtin.zeroCells ei.zv.cells len)[j - off * r.s]? else arr[j]? := fun j => by
          rw [← harr', List.getElem?_toArray, seg_get' (n := len * r.s) hnsz (by simp; omega)]
          simp
        have hsz' : arr'.size = arr.size := by
          rw [← harr']
          have := hnsz
          simp only [List.size_toArray, List.length_append, List.length_take, List.length_drop, this, Array.length_toList]
          omega
        have hw1 := setRow_heap w b arr arr' TT (0, 0) hbb
        have hw2 : ∀ c, c ≠ b → (w.setRow b arr').heap[c]? = w.heap[c]? := fun c hc => setRow_other w b c arr' hc
        have hlen' : es'.length = r.es.length := by rw [← hes]; simp; omega
        have hesg : ∀ i : Nat, es'[i]? = if off ≤ i ∧ i < off + len then some z else r.es[i]? := fun i => by
          have := seg_get (xs := r.es) (ys := List.replicate len z) (k := off) (n := len) (k' := i) (by simp) c2
          rw [← hes, this]
          split
          · rw [List.getElem?_replicate, if_pos (by omega)]
          · rfl
        have hflat' : es'.all flatE = true := by
          refine List.all_eq_true.2 fun y hy => ?_
          obtain ⟨i, hi'⟩ := List.mem_iff_getElem?.1 hy
          rw [hesg] at hi'
          split at hi'
          · cases hi'; exact c5.2
          · exact List.all_eq_true.1 c5.1 y (List.mem_of_getElem? hi')
        have blk : ∀ c n, Blk w c n → Blk (w.setRow b arr') c n := by
          intro c n hcb
          by_cases hcb2 : c = b
          · subst hcb2
            obtain ⟨arr2, T2, q1, q2⟩ := hcb
            rw [hbb] at q1
            cases q1
            exact ⟨arr', _, hw1, by rw [hsz', q2]⟩
          · obtain ⟨arr2, T2, q1, q2⟩ := hcb
            exact ⟨arr2, T2, by rw [hw2 c hcb2]; exact q1, q2⟩
        have hneb : ∀ c L, ρ c = some L → L ≠ (o1, []) → c ≠ b := by
          rintro c L h1 h2 rfl
          rw [hb] at h1
          cases h1
          exact h2 rfl
        have K : Keep (NewOf Un st.rt) w ρ st.rt (w.setRow b arr') ρ (upd st.rt o1 (some ⟨r.nv, r.s, es'⟩)) := by
          refine ⟨fun c hc _ => ⟨hc, hw2 c (by rintro rfl; rw [hb] at hc; cases hc)⟩, fun o' nv2 p' hN hl => ⟨?_, fun c n h1 h2 => ⟨h1, blk c n h2⟩⟩, fun c l hc => ⟨hc, hw2 c (hneb c _ hc (by rintro h; cases h; rw [hL.z] at hro; cases hro))⟩⟩
          by_cases ho' : o' = o1
          · subst ho'
            unfold live look at hl
            cases hvv' : valid (upd st.rt o' (some ⟨r.nv, r.s, es'⟩)) o' nv2 p' with
            | none => simp [hvv'] at hl
            | some r2 =>
              obtain ⟨h1, h2⟩ := valid_some hvv'
              simp [upd] at h1
              subst h1
              simp only [hvv', Option.bind_some] at hl
              have := flat_row (nv := 0) hflat' hl
              subst this
              simp [live, look, valid, hro, rowAt]
          · simpa [live, look, valid, upd, ho'] using hl
        have hzn : nh z := zeroV_nh hz
        refine ⟨.tuple #[], w.setRow b arr', ?_, ρ, ⟨?_, J, ?_, K, ?_, ⟨rfl, rfl, rfl, by simp, blk⟩, ?_, fun _ _ h => h⟩, tup0, by simp [noNew, noNews]⟩
        · obtain ⟨m, rfl⟩ : ∃ m, len = m + 1 := ⟨len - 1, by omega⟩
          simp [execOp, ho, resolve, invoke, builtin, Builtin.clear_, ht, hev, run_underlying hu, run_zeroValue' A hei, hrun]
        · intro o' r' hr'
          by_cases ho' : o' = o1
          · subst ho'
            simp [upd] at hr'
            subst hr'
            refine rowOk_upd (s := r.s) (H o' r hro) hlen' (fun i e he => ?_) fun b2 arr2 T2 hb2 hh2 => ?_
            · rw [hesg] at he
              split at he
              · cases he; exact c3
              · exact hg1 i e he
            · have := J b b2 _ hb hb2
              subst this
              rw [hbb] at hh2
              cases hh2
              refine ⟨arr', hb, hw1, fun i e k y he hy => ?_⟩
              have hk := (List.getElem?_eq_some_iff.1 hy).1
              rw [hesg] at he
              split at he
              · rename_i hin
                cases he
                rw [c3] at hk
                have hlt : i * r.s + k < off * r.s + len * r.s := by
                  have : (i + 1) * r.s ≤ (off + len) * r.s := Nat.mul_le_mul_right _ (by omega)
                  rw [Nat.succ_mul, hadd] at this
                  omega
                have hge : off * r.s ≤ i * r.s := Nat.mul_le_mul_right _ hin.1
                have hsub : i * r.s + k - off * r.s = (i - off) * r.s + k := by rw [Nat.sub_mul]; omega
                have hzz := slot_g (zeroV_rep (w := w) (ρ := ρ) (rt := st.rt) hz nowhere) (zeroV_cell hz) hy
                refine ⟨_, by rw [hget', if_pos ⟨by omega, hlt⟩, hsub, hzcells, zeros_get hzc (by omega) hk]; exact hzz.1, ?_⟩
                exact plainRep K hzz.2 (List.all_eq_true.1 (show (cells z).all plainV = true from c5.2) _ (List.mem_of_getElem? hy)) (nh_cell hzn hy)
              · rename_i hin
                have hks := hk
                rw [hg1 i e he] at hks
                refine ⟨g i k, ?_, ?_⟩
                · rw [hget', if_neg]
                  · exact hg2 i e k y he hy
                  · rintro ⟨q1, q2⟩
                    rcases Nat.lt_or_ge i off with h1 | h1
                    · have : (i + 1) * r.s ≤ off * r.s := Nat.mul_le_mul_right _ h1
                      rw [Nat.succ_mul] at this
                      omega
                    · have : (off + len) * r.s ≤ i * r.s := Nat.mul_le_mul_right _ (by omega)
                      omega
                · exact plainRep K (hg3 i e k y he hy) (List.all_eq_true.1 (show (cells e).all plainV = true from List.all_eq_true.1 c5.1 e (List.mem_of_getElem? he)) _ (List.mem_of_getElem? hy)) (nh_cell (nhs_get (hr o' r hro) he) hy)
          · simp [upd, ho'] at hr'
            exact RowOk.under K (fun c l hc _ => ⟨hc, hw2 c (hneb c _ hc (by rintro h; cases h; exact ho' rfl))⟩) (H o' r' hr') (hr o' r' hr')
        · intro o' r' hr'
          by_cases ho' : o' = o1
          · subst ho'
            simp [upd] at hr'
            subst hr'
            refine nhs_iff.2 fun y hy => ?_
            obtain ⟨i, hi'⟩ := List.mem_iff_getElem?.1 hy
            rw [hesg] at hi'
            split at hi'
            · cases hi'; exact hzn
            · exact nhs_get (hr o' r hro) hi'
          · simp [upd, ho'] at hr'
            exact hr o' r' hr'
        · refine ⟨fun c o' l hc => ⟨by simpa using (hL c o' l hc).1, ?_⟩, ?_, hL.f⟩
          · rcases (hL c o' l hc).2 with h1 | ⟨r1, h1⟩
            · exact .inl h1
            · refine .inr ?_
              by_cases ho' : o' = o1
              · subst ho'; exact ⟨_, by simp [upd]; rfl⟩
              · exact ⟨r1, by simpa [upd, ho'] using h1⟩
          · have : (0 : Nat) ≠ o1 := by rintro rfl; rw [hL.z] at hro; cases hro
            simp [upd, this, hL.z]
        · intro o' r' hr'
          by_cases ho' : o' = o1
          · subst ho'
            simp [upd] at hr'
            subst hr'
            exact .inl ⟨r, hro, Nat.le_refl _⟩
          · simp [upd, ho'] at hr'
            exact .inl ⟨r', hr', Nat.le_refl _⟩
      · cases h
    · cases h
  · cases h
end
end Go.Ln
namespace Go.Ln
open Go
variable {w w' : World} {ρ ρ' ρ'' : Own} {rt rt' rt'' : Store} {N : Nat→Nat→Prop}
def killOwn (ρ : Own) (o : Nat) : Own:=fun b =>
  match ρ b with
  | some (o',l)=>if o'=o then none else some (o',l)
  | none=>none
theorem killOwn_none {o b} (h : ρ b=none) : killOwn ρ o b=none:=by simp [killOwn,h]
theorem killOwn_same {o b l} (h : ρ b=some (o,l)) : killOwn ρ o b=none:=by simp [killOwn,h]
theorem killOwn_other {o b o' l} (h : ρ b=some (o',l)) (hn : o' ≠ o) : killOwn ρ o b=some (o',l):=by simp [killOwn,h,hn]
theorem killOwn_inv {o b o' l} (h : killOwn ρ o b=some (o',l)) : ρ b=some (o',l) ∧ o' ≠ o:=by
  unfold killOwn at h
  split at h
  · split at h
    · cases h
    · rename_i hn
      cases h
      exact ⟨by assumption,hn⟩
  · cases h
theorem kill_abs (H : RtOk w ρ rt) (J : Inj ρ) (hr : RtN rt) {U : Pl} (hL : Lab w ρ rt U) {o : Nat} {r : Root} (ho : rt o=some r) : Abs N w ρ rt (killOwn ρ o) (upd rt o none) U:=by
  have ho0 : 0 ≠ o:=by rintro rfl; rw [hL.z] at ho; cases ho
  have K : Keep N w ρ rt w (killOwn ρ o) (upd rt o none):=⟨fun b hb _=>⟨killOwn_none hb,rfl⟩,fun o' nv p _ hl=>by
    have hne : o' ≠ o:=by
      rintro rfl
      simp [live,look,valid,upd] at hl
    exact ⟨by simpa [live,look,valid,upd,hne] using hl,fun b n hb hn=>⟨killOwn_other hb hne,hn⟩⟩,fun b l hb=>⟨killOwn_other hb ho0,rfl⟩⟩
  refine ⟨?_,?_,?_,K,?_,?_,?_,fun b l h=>(killOwn_inv h).1⟩
  · intro o' r' h'
    by_cases hne : o'=o
    · simp [upd,hne] at h'
    · simp [upd,hne] at h'
      exact RowOk.under K (fun b l hb _=>⟨killOwn_other hb hne,rfl⟩) (H o' r' h') (hr o' r' h')
  · intro b b' L h h'
    exact J _ _ _ (killOwn_inv h).1 (killOwn_inv h').1
  · intro o' r' h'
    by_cases hne : o'=o
    · simp [upd,hne] at h'
    · simp [upd,hne] at h'
      exact hr o' r' h'
  · intro q d v u hq h hn
    have hne : q ≠ o:=by rintro rfl; rw [ho] at hq; cases hq
    exact RepV.under K (fun b l hb _=>⟨killOwn_other hb hne,rfl⟩) h hn
  · refine ⟨fun b o' l h=>?_,by simp [upd,ho0,hL.z],fun b l h=>hL.f _ _ (killOwn_inv h).1⟩
    obtain ⟨h1,h2⟩:=killOwn_inv h
    have:=hL _ _ _ h1
    exact ⟨this.1,this.2.imp id fun ⟨r,hr⟩=>⟨r,by simp [upd,h2,hr]⟩⟩
  · intro o' r' h'
    by_cases hne : o'=o
    · simp [upd,hne] at h'
    · simp [upd,hne] at h'
      exact ⟨r',h',rfl,rfl,rfl⟩
structure Src (w : World) (ρ : Own) (rt : Store) (size : Nat) (es : List V) (u : Value) (g : Nat→Nat→Value) : Prop where
  shape : ∃ A c,u=.slice A es.length c ∧ (es ≠ []→∃ b off,A=some ⟨b,off,none⟩ ∧ ∀ (i : Nat) (e : V) k x,es[i]?=some e→(cells e)[k]?=some x→w.cell? ⟨b,off + (i * size + k),none⟩=some (g i k))
  rep : ∀ (i : Nat) (e : V) k x,es[i]?=some e→(cells e)[k]?=some x→RepV w ρ rt none x (g i k)
theorem takeEls_ok (H : RtOk w ρ rt) (J : Inj ρ) (hr : RtN rt) (hL : Lab w ρ rt noU) {x : V} {u : Value} {es : List V} {size : Nat} (hx : RepV w ρ rt none x u) (hn : noNew N x) (h : takeEls rt x = some (es, rt'))
    (hs : ∀ e ∈ es, (cells e).length = size) (h0 : 0 < size) : ∃ ρ' g, Abs N w ρ rt ρ' rt' noU ∧ nhs es ∧ Src w ρ' rt' size es u g := by
  unfold takeEls at h
  split at h
  · rename_i nl es'
    cases h
    have hne : nhs es := by simpa [noNew] using hn
    cases hx with
    | isl0 _ _ A c hn => exact ⟨ρ, fun _ _ => undef, Abs.refl H J hr hL, by simp [nhs], ⟨A, c, rfl, by simp⟩, by simp⟩
    | isl _ _ b off c s g hl hp hρ hb hs' hc hh =>
      obtain ⟨e0, he0⟩ : ∃ e, es[0]? = some e := ⟨_, List.getElem?_eq_getElem hp⟩
      have : s = size := by rw [← hs' 0 e0 he0]; exact hs e0 (List.mem_of_getElem? he0)
      subst this
      exact ⟨ρ, g, Abs.refl H J hr hL, hne, ⟨some ⟨b, off, none⟩, c, rfl, fun _ => ⟨b, off, rfl, hc⟩⟩, hh⟩
  · rename_i o nv p s off len
    simp only [Option.bind_eq_some_iff] at h
    obtain ⟨⟨s1, row⟩, hl, h⟩ := h
    simp only at h
    split at h
    · rename_i hc
      split at h
      · cases h
      · rename_i hs1
        have hs1 : s = s1 := Classical.byContradiction hs1
        subst hs1
        have hrn := look_nh hr hl
        have hrow := look_rep H hl
        have hlive : live rt o nv p := by simp [live, hl]
        have hget : ∀ (i : Nat) (e : V), ((row.drop off).take len)[i]? = some e → row[off + i]? = some e := fun i e he => by
          rw [List.getElem?_take] at he
          split at he
          · rwa [List.getElem?_drop] at he
          · cases he
        have hlen : ((row.drop off).take len).length = len := by simp; omega
        obtain ⟨c, A, rfl, hlc, hcc⟩ : ∃ c A, u = .slice A len c ∧ len ≤ c ∧ (c ≠ 0 → ∃ b n, ρ b = some (o, p) ∧ Blk w b n ∧ A = some ⟨b, off * s, none⟩ ∧ (off + c) * s ≤ n) := by
          cases hx with
          | hs _ _ _ _ _ _ _ _ hh h1 => exact hh hlive
        split at h
        · rename_i hfl
          cases h
          have hnn : nhs ((row.drop off).take len) := nhs_iff.2 fun x hx => nhs_iff.1 hrn x (List.mem_of_mem_drop (List.mem_of_mem_take hx))
          rcases hrow with rfl | ⟨b, arr, T, g, h1, h2, h3, h4, h5⟩
          · refine ⟨ρ, fun _ _ => undef, Abs.refl H J hr hL, hnn, ⟨A, c, ?_, by simp⟩, by simp⟩
            rw [hlen]
          · refine ⟨ρ, fun i k => g (off + i) k, Abs.refl H J hr hL, hnn, ⟨A, c, by rw [hlen], fun hne => ?_⟩, ?_⟩
            · obtain ⟨b', n, hb, _, rfl, _⟩ := hcc (by
                intro h0
                have : len = 0 := by omega
                subst this
                exact hne (by simp))
              have := J _ _ _ h1 hb
              subst this
              refine ⟨b, off * s, rfl, fun i e k x he hx => ?_⟩
              have := h4 _ e k x (hget i e he) hx
              have hes := hs e (List.mem_of_getElem? he)
              rw [h3 _ e (hget i e he)] at hes
              subst hes
              simp only [World.cell?, h2]
              rw [← Nat.add_assoc, ← Nat.add_mul]
              exact this
            · intro i e k x he hx
              have hp : plainV x = true := List.all_eq_true.1 (by simpa [flatE] using List.all_eq_true.1 hfl e (List.mem_of_getElem? he)) x (List.mem_of_getElem? hx)
              exact (h5 _ e k x (hget i e he) hx).any (by cases x <;> first | trivial | exact absurd hp (by simp [plainV]))
        · split at h
          · rename_i hcond
            cases h
            obtain ⟨hp, h0', hll⟩ := hcond
            have hp' : p = [] := by simpa using hp
            subst hp'
            subst h0'
            have hvo : ∃ r, rt o = some r := by
              unfold look at hl
              simp only [Option.bind_eq_some_iff] at hl
              obtain ⟨r, hr', _⟩ := hl
              exact ⟨r, (valid_some hr').1⟩
            obtain ⟨r, ho⟩ := hvo
            have ab := kill_abs (N := N) H J hr hL ho
            simp only [List.drop_zero, hll, List.take_length] at hs hget hlen ⊢
            have hfz := hrow.freeze ab.keep (fun b l hb _ => ⟨killOwn_same hb, (hL _ _ _ hb).1, rfl⟩) hrn
            refine ⟨killOwn ρ o, ?_⟩
            rcases hfz with rfl | ⟨b, g, f0, f1, f2, f3, f4, f5⟩
            · exact ⟨fun _ _ => undef, ab, by simp [imms, nhs], ⟨A, c, by simp [imms], by simp [imms]⟩, by simp [imms]⟩
            · refine ⟨g, ab, imms_nh hrn, ⟨A, c, by rw [imms_len], fun hne => ?_⟩, f5⟩
              obtain ⟨b', n, hb, _, rfl, _⟩ := hcc (by
                intro h0
                have : row = [] := List.length_eq_zero_iff.1 (by omega)
                subst this
                exact hne (by simp [imms]))
              have := J _ _ _ f0 hb
              subst this
              refine ⟨b, 0 * s, rfl, fun i e k x he hx => ?_⟩
              have hes := hs e (List.mem_of_getElem? he)
              rw [f3 _ e he] at hes
              subst hes
              rw [Nat.zero_mul, Nat.zero_add]
              exact f4 i e k x he hx
          · cases h
    · cases h
  · cases h
def news (n size : Nat) (g : Nat→Nat→Value) : List Value:=(List.range (n * size)).map fun j=>g (j / size) (j % size)
theorem news_len {n size : Nat} {g : Nat→Nat→Value} : (news n size g).length=n * size:=by simp [news]
theorem news_at {n size i k : Nat} {g : Nat→Nat→Value} (hi : i < n) (hk : k < size) : (news n size g)[i * size + k]?=some (g i k):=by
  have hlt : i * size + k < n * size:=by
    have : (i + 1) * size ≤ n * size:=Nat.mul_le_mul_right _ hi
    rw [Nat.succ_mul] at this
    omega
  have h1 : (i * size + k) / size=i:=by rw [Nat.mul_comm,Nat.mul_add_div (by omega),Nat.div_eq_of_lt hk,Nat.add_zero]
  have h2 : (i * size + k) % size=k:=by rw [Nat.mul_comm,Nat.mul_add_mod,Nat.mod_eq_of_lt hk]
  simp [news,hlt,h1,h2]
theorem news_inv {n size j : Nat} {g : Nat→Nat→Value} {v : Value} (h : (news n size g)[j]?=some v) : ∃ i k,i < n ∧ k < size ∧ j=i * size + k ∧ v=g i k:=by
  have hj:=(List.getElem?_eq_some_iff.1 h).1
  rw [news_len] at hj
  have h0 : 0 < size:=by
    rcases Nat.eq_zero_or_pos size with h | h
    · subst h; simp at hj
    · exact h
  refine ⟨j / size,j % size,Nat.div_lt_of_lt_mul (by rw [Nat.mul_comm]; exact hj),Nat.mod_lt _ h0,by rw [Nat.mul_comm]; exact (Nat.div_add_mod j size).symm,?_⟩
  simp [news,hj] at h
  exact h.symm
theorem first_of {P : Program} {w1 : World} {size c : Nat} {A : Option Addr} {es : List V} {g : Nat → Nat → Value} (h : es ≠ [] → ∃ b off, A = some ⟨b, off, none⟩ ∧ ∀ (i : Nat) (e : V) k x, es[i]? = some e → (cells e)[k]? = some x → w.cell? ⟨b, off + (i * size + k), none⟩ = some (g i k))
    (hs : ∀ e ∈ es, (cells e).length = size) (hw : w1.heap = w.heap) :
    (Builtin.firstCells size es.length (.slice A es.length c)).run P w1 = .ok (news es.length size g).toArray w1 := by
  by_cases h0 : es = []
  · subst h0
    cases A with
    | none => simp [run_firstCells_none, news]
    | some a => exact run_firstCells_some w1 size 0 a 0 c (news 0 size g) (by simp [news]) (by simp [news])
  · obtain ⟨b, off, rfl, hc⟩ := h h0
    refine run_firstCells_some w1 size es.length _ es.length c _ news_len fun j v hv => ?_
    obtain ⟨i, k, hi, hk, rfl, rfl⟩ := news_inv hv
    have he : es[i]? = some (es[i]) := List.getElem?_eq_getElem hi
    have hx : (cells es[i])[k]? = some ((cells es[i])[k]'(by rw [hs _ (List.getElem_mem _)]; exact hk)) := List.getElem?_eq_getElem _
    rw [Addr.add_lit, ← hc i _ k _ he hx]
    unfold World.cell?
    rw [hw]
theorem Src.first {P : Program} {w1 : World} {size : Nat} {es : List V} {u : Value} {g : Nat → Nat → Value} (s : Src w ρ rt size es u g) (hs : ∀ e ∈ es, (cells e).length = size) (hw : w1.heap = w.heap) :
    (Builtin.firstCells size es.length u).run P w1 = .ok (news es.length size g).toArray w1 := by
  obtain ⟨A, c, rfl, h⟩ := s.shape
  exact first_of h hs hw
theorem Src.one {size : Nat} {es : List V} {u : Value} {g : Nat→Nat→Value} (s : Src w ρ rt size es u g) (hs : ∀ e ∈ es,(cells e).length=size ∧ (cells e).all cellV=true) : ∀ v ∈ news es.length size g,v.oneCell'=true:=by
  intro v hv
  obtain ⟨j,hj⟩:=List.mem_iff_getElem?.1 hv
  obtain ⟨i,k,hi,hk,rfl,rfl⟩:=news_inv hj
  have he : es[i]?=some (es[i]):=List.getElem?_eq_getElem hi
  have hx : (cells es[i])[k]?=some ((cells es[i])[k]'(by rw [(hs _ (List.getElem_mem _)).1]; exact hk)):=List.getElem?_eq_getElem _
  have:=rep_one (s.rep i _ k _ he hx) (List.all_eq_true.1 (hs _ (List.getElem_mem _)).2 _ (List.getElem_mem _))
  generalize g i k=y at this
  cases y <;> first | rfl | exact this.elim
end Go.Ln
namespace Go.Ln
open Go
variable {w w' : World} {ρ ρ' ρ'' : Own} {rt rt' rt'' : Store} {N : Nat→Nat→Prop}
structure Near (w : World) (ρ : Own) (w' : World) (ρ' : Own) (id : Nat) : Prop where
  h1 : ∀ b,ρ b=none→b < w.heap.size→ρ' b=none ∧ w'.heap[b]?=w.heap[b]?
  h2 : ∀ b o l,ρ b=some (o,l)→(o ≠ id ∨ l ≠ [])→ρ' b=some (o,l) ∧ w'.heap[b]?=w.heap[b]?
  h3 : ∀ b o l,ρ' b=some (o,l)→b < w'.heap.size ∧ (ρ b=some (o,l) ∨ (o=id ∧ l=[]))
  wk : Wk w w'
theorem Near.keep {id : Nat} (n : Near w ρ w' ρ' id) (hp : 0 < id) (hid : rt id=none) (hN : ∀ nv,N id nv) {r : Option Root} : Keep N w ρ rt w' ρ' (upd rt id r):=by
  refine ⟨fun b hb hl=>n.h1 b hb hl,fun o nv p hNo hl=>?_,fun b l hb=>n.h2 b 0 l hb (.inl (by omega))⟩
  have hne : o ≠ id:=by rintro rfl; exact hNo (hN nv)
  refine ⟨by simpa [live,look,valid,upd,hne] using hl,fun b m hb hbl=>?_⟩
  exact ⟨(n.h2 b o p hb (.inl hne)).1,n.wk.blk b m hbl⟩
theorem Near.eff {U : Pl} (a : Abs N w ρ rt ρ' rt' U) {id : Nat} (hp : 0 < id) (hU : ∀ o l, U o l → o = 0 ∨ o = id) (hid : rt id = none) (hN : ∀ nv, N id nv) {w' : World} {ρ'' : Own} (n : Near w ρ' w' ρ'' id) (J : Inj ρ'') {s : Nat} {es : List V}
    (row : RowOk w' ρ'' (upd rt' id (some ⟨0, s, es⟩)) (id, []) s es) (hn : nhs es) : Eff N w ρ rt w' ρ'' (upd rt' id (some ⟨0, s, es⟩)) id := by
  have hid' := a.gone hid
  have K := n.keep (N := N) (rt := rt') hp hid' hN (r := some ⟨0, s, es⟩)
  refine ⟨?_, J, ?_, a.keep.trans K (Nat.le_refl _), ?_, n.wk, ?_, fun b l h => a.f0 b l (by
    rcases (n.h3 b 0 l h).2 with h | h
    · exact h
    · omega)⟩
  · intro o r h
    by_cases ho : o = id
    · subst ho
      simp [upd] at h
      subst h
      exact row
    · simp [upd, ho] at h
      exact RowOk.under K (fun b l hb _ => n.h2 b o l hb (.inl ho)) (a.rok o r h) (a.rtn o r h)
  · intro o r h
    by_cases ho : o = id
    · simp [upd, ho] at h
      subst h
      exact hn
    · simp [upd, ho] at h
      exact a.rtn o r h
  · refine ⟨fun b o l h => ?_, by simp [upd, Nat.ne_of_lt hp, a.lab.z], fun b l h => ?_⟩
    rotate_left
    · rcases (n.h3 b 0 l h).2 with h | h
      · exact a.lab.f _ _ h
      · omega
    obtain ⟨h1, h2⟩ := n.h3 b o l h
    refine ⟨h1, ?_⟩
    by_cases ho : o = id
    · exact .inr ⟨⟨0, s, es⟩, by simp [upd, ho]⟩
    · rcases h2 with h2 | h2
      · rcases (a.lab b o l h2).2 with hu | ⟨r, hu⟩
        · rcases hU _ _ hu with h | h
          · exact .inl h
          · exact absurd h ho
        · exact .inr ⟨r, by simp [upd, ho, hu]⟩
      · exact absurd h2.1 ho
  · intro o r h
    by_cases ho : o = id
    · subst ho; exact .inr ⟨Nat.le_refl _, by simp [room]⟩
    · simp [upd, ho] at h
      obtain ⟨r', h', e, _⟩ := a.nv o r h
      exact .inl ⟨r', h', by omega⟩
theorem append_in {P : Program} {t t1 ty e e' : TypeId} {i : TypeInfo} (ht : P.underlying t = some (.slice e)) (ht1 : P.underlying t1 = some (.slice e')) (hi : P.info? e = some i) {ts : Array TypeId} (h0 : ts[0]? = some t) (h1 : ts[1]? = some t1)
    {g sLen sCap n : Nat} {cur : Array Value} {T : TypeId} {u : Value} {nw : List Value} (hg : w.heap[g]? = some (.cells cur T (0, 0))) (hu : ∃ A c, u = .slice A n c) (hf : (Builtin.firstCells i.size n u).run P w = .ok nw.toArray w)
    (hone : ∀ v ∈ nw, v.oneCell' = true) (hroom : sLen + n ≤ sCap) (hfit : sLen * i.size + nw.length ≤ cur.size) :
    (Builtin.append_ ts ty #[.slice (some ⟨g, 0, none⟩) sLen sCap, u]).run P w = .ok (.slice (some ⟨g, 0, none⟩) (sLen + n) sCap) (w.setRow g (cur.toList.take (sLen * i.size) ++ nw ++ cur.toList.drop (sLen * i.size + nw.length)).toArray) := by
  obtain ⟨A, c, rfl⟩ := hu
  have hst := run_storeCells_at P g (sLen * i.size) T nw 0 cur w hg (by simpa using hfit) hone
  simp only [Nat.add_zero] at hst
  simp [Builtin.append_, h0, h1, run_underlying ht, run_underlying ht1, sizeOf, typeInfo, hi, Builtin.lenOf, hroom, hf, Addr.add_lit, hst]
theorem append_none {P : Program} {t t1 ty e e' : TypeId} {i : TypeInfo} (ht : P.underlying t = some (.slice e)) (ht1 : P.underlying t1 = some (.slice e')) (hi : P.info? e = some i) {ts : Array TypeId} (h0 : ts[0]? = some t) (h1 : ts[1]? = some t1)
    {A A' : Option Addr} {sLen c c' : Nat} (hc : sLen ≤ c) : (Builtin.append_ ts ty #[.slice A sLen c, .slice A' 0 c']).run P w = .ok (.slice A sLen c) w := by
  have hf : (Builtin.firstCells i.size 0 (.slice A' 0 c')).run P w = .ok #[] w := by
    cases A' with
    | none => exact run_firstCells_none w _ _ _ _
    | some a => exact run_firstCells_some w i.size 0 a 0 c' [] (by simp) (by simp)
  cases A with
  | none => simp [Builtin.append_, h0, h1, run_underlying ht, run_underlying ht1, sizeOf, typeInfo, hi, Builtin.lenOf, hc, hf]
  | some a => simp [Builtin.append_, h0, h1, run_underlying ht, run_underlying ht1, sizeOf, typeInfo, hi, Builtin.lenOf, hc, hf, storeCells]
theorem append_new {P : Program} {t t1 ty e e' : TypeId} {i : TypeInfo} {z : Value} (ht : P.underlying t = some (.slice e)) (ht1 : P.underlying t1 = some (.slice e')) (hi : P.info? e = some i) (hz : i.zero = some z) {ts : Array TypeId} (h0 : ts[0]? = some t) (h1 : ts[1]? = some t1)
    {A : Option Addr} {sLen sCap n : Nat} {u : Value} {olds nw : List Value} (hu : ∃ A c, u = .slice A n c) (ho : (Builtin.firstCells i.size sLen (.slice A sLen sCap)).run P w.drew = .ok olds.toArray w.drew) (hf : (Builtin.firstCells i.size n u).run P w.drew = .ok nw.toArray w.drew)
    (hg : sCap < sLen + n) (hl : sLen + n ≤ lim) (hb : (sLen + n) * i.bytes ≤ lim) :
    (Builtin.append_ ts ty #[.slice A sLen sCap, u]).run P w = .ok (.slice (some ⟨w.heap.size, 0, none⟩) (sLen + n) (grownCap w (sLen + n) sCap e))
      (w.drew.alloc (.cells (olds ++ nw ++ (Builtin.zeroCells z.cells (grownCap w (sLen + n) sCap e - (sLen + n))).toList).toArray e)) := by
  obtain ⟨A', c, rfl⟩ := hu
  have hlim : lim = 1099511627776 := rfl
  have hn : ¬ (sLen + n ≤ sCap) := by omega
  have h63' : ¬ (9223372036854775807 < ((sLen : Int) + (n : Int))) := by omega
  have h48' : ¬ (281474976710656 < Builtin.nextslicecap (sLen + n) sCap * i.bytes) := by
    have h1 : Builtin.nextslicecap (sLen + n) sCap * i.bytes ≤ 2 * (sLen + n) * i.bytes := Nat.mul_le_mul_right _ (nextslicecap_le hg)
    rw [Nat.mul_assoc] at h1
    omega
  simp [Builtin.append_, h0, h1, run_underlying ht, run_underlying ht1, sizeOf, typeInfo, zeroValue, hi, hz, Builtin.lenOf, hn, h63', h48', Question.forced, hf, ho, newRow, grownCap]
  congr 2
  apply Array.ext'
  simp
theorem usl_parts {l : Loc} {s : Nat} {z : List V} {u : Value} (h : RepV w ρ rt (some l) (.usl s z) u) : ∃ A c, ∃ g : Nat → Nat → Value, u = .slice A z.length c ∧ z.length ≤ c ∧ (∀ (i : Nat) (e : V), z[i]? = some e → (cells e).length = s) ∧
    (c ≠ 0 → ∃ b arr T, ρ b = some l ∧ w.heap[b]? = some (.cells arr T (0, 0)) ∧ A = some ⟨b, 0, none⟩ ∧ c * s ≤ arr.size ∧ ∀ (i : Nat) (e : V) k x, z[i]? = some e → (cells e)[k]? = some x → arr[i * s + k]? = some (g i k)) ∧
    (∀ (i : Nat) (e : V) k x, z[i]? = some e → (cells e)[k]? = some x → RepV w ρ rt (some (l.at i k)) x (g i k)) := by
  cases h with
  | usl0 _ _ A => exact ⟨A, 0, fun _ _ => undef, rfl, by simp, by simp, by simp, by simp⟩
  | usl _ _ _ b A c arr T g hρ hb hl hA hcap hs hc hh => exact ⟨A, c, g, rfl, hl, hs, fun h0 => ⟨b, arr, T, hρ, hb, hA h0, hcap, hc⟩, hh⟩
theorem absorb_hs {o nv : Nat} {p : List (Nat × Nat)} {s off len : Nat} {v : V} (h : absorbCell rt (.hs o nv p s off len)=some (v,rt')) {s1 : Nat} {row : List V} (hl : look rt o nv p=some (s1,row)) : v=.usl s1 (row.take len) ∧ s=s1 ∧ off=0:=by
  unfold absorbCell at h
  unfold look at hl
  simp only [Option.bind_eq_some_iff] at h hl
  obtain ⟨r,hr,x,hx,h⟩:=h
  obtain ⟨r',hr',hx'⟩:=hl
  rw [hr] at hr'
  cases hr'
  rw [hx] at hx'
  cases hx'
  split at h
  · rename_i hc
    simp only [Option.map_eq_some_iff] at h
    obtain ⟨_,_,h⟩:=h
    cases h
    exact ⟨rfl,hc.2.2,hc.1⟩
  · cases h
section
variable {P : Program} {E : Env} (A : Agree P E) {st : St} {a : Act} {o : Oper} (H : RtOk w ρ st.rt) (J : Inj ρ) (T : TmOk w ρ st.rt st.tm a.tmps) (hr : RtN st.rt) (hL : Lab w ρ st.rt noU) {Un : Nat→Prop} {id : Nat} (hm : TmN (NewOf Un st.rt) st.tm) (hi : Fresh Un st.rt id)
include A H J T hr hL hm hi
theorem n_append {t t1 : TypeId} {x y : Operand} {d xv v : V} {ts : Array TypeId} {rt' : Store} (ho : o.op = .call { callee := .builtin .append, args := #[x, y], argTypes := ts }) (h0 : ts[0]? = some t) (h1 : ts[1]? = some t1) (hs1 : isSliceD (E.desc t1) = true)
    (hd : ev st x = some d) (hx : ev st y = some xv) (h : appendV E st.rt id t d xv = some (v, rt')) :
    ∃ u w', (execOp a.eval o).run P w = .ok (.value u) w' ∧ Out Un w ρ st.rt id v rt' u w' := by
  obtain ⟨e', he'⟩ : ∃ e', P.underlying t1 = some (.slice e') := by
    cases hq : E.desc t1 with
    | none => simp [hq, isSliceD] at hs1
    | some d => cases d <;> simp [hq, isSliceD] at hs1; exact ⟨_, A.desc hq⟩
  have hN : ∀ nv, NewOf Un st.rt id nv := fun nv => .inl hi.uid
  have hid := hi.at
  have go : ∀ u w', (Builtin.append_ ts o.type #[a.eval x, a.eval y]).run P w = .ok u w' → Out Un w ρ st.rt id v rt' u w' → ∃ u w', (execOp a.eval o).run P w = .ok (.value u) w' ∧ Out Un w ρ st.rt id v rt' u w' := by
    intro u w' hrun hout
    exact ⟨u, w', by simp [execOp, ho, resolve, invoke, builtin, hrun], hout⟩
  unfold appendV at h
  split at h
  · rename_i e sz bt zv htt
    simp only [Option.bind_eq_some_iff] at h
    obtain ⟨ei, hei, ⟨es, rt1⟩, hes, h⟩ := h
    split at h
    · rename_i hall
      simp only at hall
      obtain ⟨⟨hpos, hzs⟩, hall⟩ := hall
      have hall' : ∀ e ∈ es, (cells e).length = ei.size ∧ (cells e).all cellV = true := fun e he => by
        have := List.all_eq_true.1 hall e he
        simp only [Bool.and_eq_true, beq_iff_eq] at this
        exact this
      have hsz : ∀ e ∈ es, (cells e).length = ei.size := fun e he => (hall' e he).1
      obtain ⟨i, hi1, hi2, hi3, hi4⟩ := A.info e ei hei
      have hu := A.und t _ htt
      simp only at hu
      have hxa : isAggV xv = false := by cases xv <;> first | rfl | simp [takeEls] at hes
      obtain ⟨ρ1, g, ab, hesn, src⟩ := takeEls_ok (N := NewOf Un st.rt) H J hr hL (Slot.one hxa (ev_rep T hx)) (ev_nn hm hx) hes hsz hpos
      have shape := src.shape
      obtain ⟨Ax, cx, hux, hAx⟩ := shape
      have hfirst : ∀ w1 : World, w1.heap = w.heap → (Builtin.firstCells i.size es.length (a.eval y)).run P w1 = .ok (news es.length ei.size g).toArray w1 := fun w1 hw1 => by
        rw [hi2]
        exact src.first hsz hw1
      have hone := src.one hall'
      split at h
      · -- nothing yet
        rename_i nl
        split at h
        · rename_i hlim
          cases h
          simp only at hlim ⊢
          obtain ⟨l1, l2⟩ := hlim
          have hdr := Slot.one rfl (ev_rep T hd)
          have hud : a.eval x = .slice none 0 0 := by
            generalize a.eval x = ud at hdr
            cases hdr with
            | isl0 _ _ _ c hn => obtain ⟨rfl, rfl⟩ := hn rfl; rfl
          by_cases hne : es = []
          · subst hne
            have hrun := append_none (P := P) (w := w) (ty := o.type) hu he' hi1 h0 h1 (A := none) (sLen := 0) (c := 0) (A' := Ax) (c' := cx) (Nat.le_refl _)
            refine go (.slice none 0 0) w (by rw [hud, hux]; exact hrun) ⟨ρ1, ?_, Slot.mk1 rfl (.hs _ _ _ _ _ _ _ _ (fun _ => ⟨0, none, rfl, Nat.le_refl _, fun h => absurd rfl h⟩) trivial), new_val_hs A H J T hr hL hm hi⟩
            refine Near.eff ab hi.p (fun o l h => .inl h) hid hN ⟨fun b hb _ => ⟨hb, rfl⟩, fun b o l hb _ => ⟨hb, rfl⟩, fun b o l hb => ⟨(ab.lab b o l hb).1, .inl hb⟩, Wk.refl⟩ ab.inj (.inl rfl) hesn
          · have hpe : 0 < es.length := List.length_pos_iff.2 hne
            have hrun := append_new (P := P) (w := w) (ty := o.type) (u := a.eval y) (olds := []) hu he' hi1 hi4 h0 h1 (A := none) (sLen := 0) (sCap := 0) (n := es.length) ⟨_, _, hux⟩ (by simp [run_firstCells_none]) (hfirst _ rfl) (by omega) (by omega) (by rw [Nat.zero_add, hi3]; exact l1)
            rw [Nat.zero_add] at hrun
            simp only [List.nil_append] at hrun
            generalize hcap : grownCap w es.length 0 e = cap at hrun
            have hge : es.length ≤ cap := by rw [← hcap]; exact grownCap_ge _ _ _ _
            generalize harr : (news es.length ei.size g ++ (Builtin.zeroCells ei.zv.cells (cap - es.length)).toList).toArray = arr at hrun
            refine go _ _ (by rw [hud]; exact hrun) ⟨lab1 ρ1 w.heap.size (id, []), ?_, Slot.mk1 rfl (new_hs (w := w) (w' := w.drew.alloc (.cells arr e)) rfl hge ?_), new_val_hs A H J T hr hL hm hi⟩
            · refine Abs.newRoot (w' := w.drew.alloc (.cells arr e)) (es := es) (T := e) (g := g) ab hi.p (fun o l h => .inl h) hid hN rfl rfl rfl rfl (fun i e he => hsz e (List.mem_of_getElem? he)) ?_ (fun i e k x he hx => (src.rep i e k x he hx).anyN) hesn
              intro i e k x he hx
              have hi' := (List.getElem?_eq_some_iff.1 he).1
              have hk := (List.getElem?_eq_some_iff.1 hx).1
              rw [hsz e (List.mem_of_getElem? he)] at hk
              rw [← harr, List.getElem?_toArray, List.getElem?_append_left]
              · exact news_at hi' hk
              · exact (List.getElem?_eq_some_iff.1 (news_at (g := g) hi' hk)).1
            · rw [← harr]
              simp only [List.size_toArray, List.length_append, news_len, Array.length_toList, size_zeroCells, hzs]
              rw [← Nat.add_mul]
              exact Nat.mul_le_mul_right _ (by omega)
        · cases h
      · rename_i o1 nv p s off len
        simp only [Option.bind_eq_some_iff] at h
        obtain ⟨⟨s1, z⟩, hz, h⟩ := h
        split at h
        · rename_i hcond
          simp only at hcond
          obtain ⟨c1, c2, c3, c4, c5⟩ := hcond
          simp only [Option.map_eq_some_iff] at h
          obtain ⟨⟨dv, rt2⟩, hab, h⟩ := h
          cases h
          have hdn := ev_nn hm hd
          have hdr := (Slot.one rfl (ev_rep T hd)).keep ab.keep hdn
          obtain ⟨ρ2, ab2, dr, dn, dc⟩ := absorbCell_ok (N := NewOf Un st.rt) ab.rok ab.inj ab.rtn ab.lab (q := id) (dst := []) (fun l h => absurd hi.p (by simp only [noU] at h; omega)) (Nat.ne_of_gt hi.p) (ab.gone hid) hdr hdn hab
          obtain ⟨rfl, rfl, _⟩ := absorb_hs hab hz
          have abs := ab.trans ab2
          subst c2
          rw [List.take_length] at dr dn
          have hzn : nhs z := by simpa [nh] using dn
          subst c3
          have hesn' : nhs (z ++ es) := nhs_iff.2 fun x hx => by
            rcases List.mem_append.1 hx with h | h
            · exact nhs_iff.1 hzn x h
            · exact nhs_iff.1 hesn x h
          have hU : ∀ o l, atP noU id [] o l → o = 0 ∨ o = id := by
            rintro o l (h | h)
            · exact .inl h
            · exact .inr h.1
          obtain ⟨Ad, c, gz, hud, hlc, hzl, hblk, hzr⟩ := usl_parts dr
          have hzl' : ∀ e ∈ z, (cells e).length = ei.size := fun e he => by
            obtain ⟨j, hj⟩ := List.mem_iff_getElem?.1 he
            exact hzl j e hj
          have hesr : ∀ (i : Nat) (e : V) k x, es[i]? = some e → (cells e)[k]? = some x → RepV w ρ2 rt2 none x (g i k) := fun i e k x he hx => (src.rep i e k x he hx).keep ab2.keep (nh_noNew (nh_cell (nhs_get hesn he) hx))
          have hboth : ∀ (j : Nat) (e : V), (z ++ es)[j]? = some e → (j < z.length ∧ z[j]? = some e) ∨ (z.length ≤ j ∧ es[j - z.length]? = some e) := fun j e he => by
            by_cases hj : j < z.length
            · rw [List.getElem?_append_left hj] at he; exact .inl ⟨hj, he⟩
            · rw [List.getElem?_append_right (by omega)] at he; exact .inr ⟨by omega, he⟩
          by_cases hne : es = []
          · subst hne
            have hrun := append_none (P := P) (w := w) (ty := o.type) hu he' hi1 h0 h1 (A := Ad) (sLen := z.length) (c := c) (A' := Ax) (c' := cx) hlc
            simp only [List.append_nil, List.length_nil, Nat.add_zero] at go ⊢
            refine go (.slice Ad z.length c) w (by rw [hud, hux]; exact hrun) ⟨ρ2, ?_, Slot.mk1 rfl (.hs _ _ _ _ _ _ _ _ (fun _ => ⟨c, Ad, rfl, hlc, fun hc0 => ?_⟩) trivial), new_val_hs A H J T hr hL hm hi⟩
            · have n0 : Near w ρ2 w ρ2 id := ⟨fun b hb _ => ⟨hb, rfl⟩, fun b o l hb _ => ⟨hb, rfl⟩, fun b o l hb => ⟨(abs.lab b o l hb).1, .inl hb⟩, Wk.refl⟩
              refine Near.eff abs hi.p hU hid hN n0 abs.inj ?_ hzn
              exact RowOk.under (n0.keep (N := NewOf Un st.rt) (rt := rt2) hi.p (abs.gone hid) hN) (fun b l hb _ => ⟨hb, rfl⟩) (rowOk_usl dr) hzn
            · obtain ⟨b, arr, TT, q1, q2, rfl, q4, q5⟩ := hblk hc0
              exact ⟨b, _, q1, ⟨arr, TT, q2, rfl⟩, by simp, by simpa using q4⟩
          · have hpe : 0 < es.length := List.length_pos_iff.2 hne
            by_cases hroom : z.length + es.length ≤ c
            · -- in place
              obtain ⟨b, arr, TT, q1, q2, rfl, q4, q5⟩ := hblk (by omega)
              have hfit : z.length * ei.size + es.length * ei.size ≤ arr.size := by
                rw [← Nat.add_mul]
                exact Nat.le_trans (Nat.mul_le_mul_right _ hroom) q4
              have hrun := append_in (P := P) (ty := o.type) hu he' hi1 h0 h1 (u := a.eval y) (sLen := z.length) (sCap := c) (n := es.length) q2 ⟨_, _, hux⟩ (hfirst w rfl) hone hroom (by rw [news_len, hi2]; exact hfit)
              rw [news_len, hi2] at hrun
              generalize harr' : (arr.toList.take (z.length * ei.size) ++ news es.length ei.size g ++ arr.toList.drop (z.length * ei.size + es.length * ei.size)).toArray = arr' at hrun
              have hget' : ∀ j, arr'[j]? = if z.length * ei.size ≤ j ∧ j < z.length * ei.size + es.length * ei.size then (news es.length ei.size g)[j - z.length * ei.size]? else arr[j]? := fun j => by
                rw [← harr', List.getElem?_toArray, seg_get' (n := es.length * ei.size) news_len (by simpa using hfit)]
                simp
              have hsz' : arr'.size = arr.size := by rw [← harr']; simp [news_len]; omega
              have hw1 := setRow_heap w b arr arr' TT (0, 0) q2
              have hw2 : ∀ c, c ≠ b → (w.setRow b arr').heap[c]? = w.heap[c]? := fun c hc => setRow_other w b c arr' hc
              have n0 : Near w ρ2 (w.setRow b arr') ρ2 id := by
                refine ⟨fun b' hb _ => ⟨hb, hw2 b' (by rintro rfl; rw [q1] at hb; cases hb)⟩, fun b' o l hb hn => ⟨hb, hw2 b' (by rintro rfl; rw [q1] at hb; cases hb; rcases hn with h | h <;> exact h rfl)⟩, fun b' o l hb => ⟨by simpa using (abs.lab b' o l hb).1, .inl hb⟩, rfl, rfl, rfl, by simp, fun b' n hb => ?_⟩
                obtain ⟨a1, t1, p1, p2⟩ := hb
                by_cases hbb : b' = b
                · subst hbb
                  rw [q2] at p1
                  cases p1
                  exact ⟨arr', TT, hw1, by rw [hsz', p2]⟩
                · exact ⟨a1, t1, by rw [hw2 b' hbb]; exact p1, p2⟩
              have K := n0.keep (N := NewOf Un st.rt) (rt := rt2) (r := some ⟨0, ei.size, z ++ es⟩) hi.p (abs.gone hid) hN
              refine go _ _ (by rw [hud]; exact hrun) ⟨ρ2, ?_, Slot.mk1 rfl (.hs _ _ _ _ _ _ _ _ (fun _ => ⟨c, _, rfl, hroom, fun _ => ⟨b, arr'.size, q1, ⟨arr', TT, hw1, rfl⟩, by simp, by rw [hsz']; simpa using q4⟩⟩) trivial), new_val_hs A H J T hr hL hm hi⟩
              refine Near.eff abs hi.p hU hid hN n0 abs.inj (.inr ⟨b, arr', TT, fun i k => if i < z.length then gz i k else g (i - z.length) k, q1, hw1, ?_, ?_, ?_⟩) hesn'
              · intro j e he
                rcases hboth j e he with ⟨_, h⟩ | ⟨_, h⟩
                · exact hzl j e h
                · exact hsz e (List.mem_of_getElem? h)
              · intro j e k x he hx
                have hk := (List.getElem?_eq_some_iff.1 hx).1
                rcases hboth j e he with ⟨hj, h⟩ | ⟨hj, h⟩
                · rw [hzl j e h] at hk
                  have : (j + 1) * ei.size ≤ z.length * ei.size := Nat.mul_le_mul_right _ hj
                  rw [Nat.succ_mul] at this
                  show arr'[j * ei.size + k]? = some (if j < z.length then _ else _)
                  rw [if_pos hj, hget', if_neg (by omega)]
                  exact q5 j e k x h hx
                · have hje := (List.getElem?_eq_some_iff.1 h).1
                  rw [hsz e (List.mem_of_getElem? h)] at hk
                  have e1 : j * ei.size + k = z.length * ei.size + ((j - z.length) * ei.size + k) := by
                    rw [← Nat.add_assoc, ← Nat.add_mul]
                    congr 2
                    omega
                  have e2 := news_at (g := g) hje hk
                  have e3 := (List.getElem?_eq_some_iff.1 e2).1
                  rw [news_len] at e3
                  show arr'[j * ei.size + k]? = some (if j < z.length then _ else _)
                  rw [if_neg (by omega), hget', if_pos (by omega), e1, Nat.add_sub_cancel_left]
                  exact e2
              · intro j e k x he hx
                rcases hboth j e he with ⟨hj, h⟩ | ⟨hj, h⟩
                · show RepV _ _ _ _ _ (if j < z.length then _ else _)
                  rw [if_pos hj]
                  exact RepV.under K (fun b l hb hp => n0.h2 b id l hb (.inr (by rintro rfl; obtain ⟨t, ht⟩ := hp; simp at ht))) (hzr j e k x h hx) (nh_cell (nhs_get hzn h) hx)
                · show RepV _ _ _ _ _ (if j < z.length then _ else _)
                  rw [if_neg (by omega)]
                  exact ((hesr _ e k x h hx).keep K (nh_noNew (nh_cell (nhs_get hesn h) hx))).anyN
            · -- elsewhere
              have hlo : ∀ w1 : World, w1.heap = w.heap → (Builtin.firstCells i.size z.length (.slice Ad z.length c)).run P w1 = .ok (news z.length ei.size gz).toArray w1 := fun w1 hw1 => by
                rw [hi2]
                refine first_of (fun hzne => ?_) hzl' hw1
                obtain ⟨b, arr, TT, q1, q2, rfl, q4, q5⟩ := hblk (by have := List.length_pos_iff.2 hzne; omega)
                refine ⟨b, 0, rfl, fun i e k x he hx => ?_⟩
                rw [Nat.zero_add]
                simp only [World.cell?, q2]
                exact q5 i e k x he hx
              have hrun := append_new (P := P) (w := w) (ty := o.type) (u := a.eval y) hu he' hi1 hi4 h0 h1 (A := Ad) (sLen := z.length) (sCap := c) (n := es.length) ⟨_, _, hux⟩ (hlo _ rfl) (hfirst _ rfl) (by omega) c5 (by rw [hi3]; exact c4)
              generalize hcap : grownCap w (z.length + es.length) c e = cap at hrun
              have hge : z.length + es.length ≤ cap := by rw [← hcap]; exact grownCap_ge _ _ _ _
              generalize harr : (news z.length ei.size gz ++ news es.length ei.size g ++ (Builtin.zeroCells ei.zv.cells (cap - (z.length + es.length))).toList).toArray = arr at hrun
              let ρ3 : Own := fun b => if b = w.heap.size then some (id, []) else if ρ2 b = some (id, []) then none else ρ2 b
              have hw : (w.drew.alloc (.cells arr e)).heap = w.heap.push (.cells arr e (0, 0)) := rfl
              have hlt : ∀ b o l, ρ2 b = some (o, l) → b < w.heap.size := fun b o l hb => (abs.lab b o l hb).1
              have hold : ∀ b, b < w.heap.size → (w.drew.alloc (.cells arr e)).heap[b]? = w.heap[b]? := fun b hb => by
                rw [hw, Array.getElem?_push, if_neg (by omega)]
              have n0 : Near w ρ2 (w.drew.alloc (.cells arr e)) ρ3 id := by
                refine ⟨fun b hb hl => ⟨?_, hold b hl⟩, fun b o l hb hn => ⟨?_, hold b (hlt b o l hb)⟩, fun b o l hb => ?_, Wk.push hw rfl rfl rfl⟩
                · simp [ρ3, Nat.ne_of_lt hl, hb]
                · have := hlt b o l hb
                  simp only [ρ3]
                  rw [if_neg (by omega), if_neg]
                  · exact hb
                  · rw [hb]
                    intro hq
                    cases hq
                    rcases hn with h | h <;> exact h rfl
                · simp only [ρ3] at hb
                  split at hb
                  · cases hb
                    rename_i hb'
                    subst hb'
                    exact ⟨by rw [hw]; simp, .inr ⟨rfl, rfl⟩⟩
                  · split at hb
                    · cases hb
                    · exact ⟨by rw [hw]; have := hlt b o l hb; simp; omega, .inl hb⟩
              have J3 : Inj ρ3 := by
                intro b b' L hb hb'
                simp only [ρ3] at hb hb'
                split at hb <;> split at hb'
                · simp_all
                · cases hb
                  split at hb'
                  · cases hb'
                  · rename_i h ; exact absurd hb' h
                · cases hb'
                  split at hb
                  · cases hb
                  · rename_i h ; exact absurd hb h
                · split at hb
                  · cases hb
                  · split at hb'
                    · cases hb'
                    · exact abs.inj _ _ _ hb hb'
              have K := n0.keep (N := NewOf Un st.rt) (rt := rt2) (r := some ⟨0, ei.size, z ++ es⟩) hi.p (abs.gone hid) hN
              have hb3 : ρ3 w.heap.size = some (id, []) := by simp [ρ3]
              have hsz3 : cap * ei.size ≤ arr.size := by
                rw [← harr]
                simp only [List.size_toArray, List.length_append, news_len, Array.length_toList, size_zeroCells, hzs]
                rw [← Nat.add_mul, ← Nat.add_mul]
                exact Nat.mul_le_mul_right _ (by omega)
              have hnew : (w.drew.alloc (.cells arr e)).heap[w.heap.size]? = some (.cells arr e (0, 0)) := by rw [hw]; simp
              refine go _ _ (by rw [hud]; exact hrun) ⟨ρ3, ?_, Slot.mk1 rfl (.hs _ _ _ _ _ _ _ _ (fun _ => ⟨cap, _, rfl, hge, fun _ => ⟨w.heap.size, arr.size, hb3, ⟨arr, e, hnew, rfl⟩, by simp, by simpa using hsz3⟩⟩) trivial), new_val_hs A H J T hr hL hm hi⟩
              refine Near.eff abs hi.p hU hid hN n0 J3 (.inr ⟨w.heap.size, arr, e, fun i k => if i < z.length then gz i k else g (i - z.length) k, hb3, hnew, ?_, ?_, ?_⟩) hesn'
              · intro j e he
                rcases hboth j e he with ⟨_, h⟩ | ⟨_, h⟩
                · exact hzl j e h
                · exact hsz e (List.mem_of_getElem? h)
              · intro j e k x he hx
                have hk := (List.getElem?_eq_some_iff.1 hx).1
                rw [← harr, List.getElem?_toArray]
                rcases hboth j e he with ⟨hj, h⟩ | ⟨hj, h⟩
                · rw [hzl j e h] at hk
                  have e2 := news_at (g := gz) hj hk
                  have e3 := (List.getElem?_eq_some_iff.1 e2).1
                  show _ = some (if j < z.length then _ else _)
                  rw [if_pos hj, List.append_assoc, List.getElem?_append_left e3]
                  exact e2
                · have hje := (List.getElem?_eq_some_iff.1 h).1
                  rw [hsz e (List.mem_of_getElem? h)] at hk
                  have e1 : j * ei.size + k = z.length * ei.size + ((j - z.length) * ei.size + k) := by
                    rw [← Nat.add_assoc, ← Nat.add_mul]
                    congr 2
                    omega
                  have e2 := news_at (g := g) hje hk
                  have e3 := (List.getElem?_eq_some_iff.1 e2).1
                  show _ = some (if j < z.length then _ else _)
                  rw [if_neg (by omega), List.append_assoc, e1, List.getElem?_append_right (by rw [news_len]; omega), news_len, Nat.add_sub_cancel_left, List.getElem?_append_left e3]
                  exact e2
              · intro j e k x he hx
                rcases hboth j e he with ⟨hj, h⟩ | ⟨hj, h⟩
                · show RepV _ _ _ _ _ (if j < z.length then _ else _)
                  rw [if_pos hj]
                  exact RepV.under K (fun b l hb hp => n0.h2 b id l hb (.inr (by rintro rfl; obtain ⟨t, ht⟩ := hp; simp at ht))) (hzr j e k x h hx) (nh_cell (nhs_get hzn h) hx)
                · show RepV _ _ _ _ _ (if j < z.length then _ else _)
                  rw [if_neg (by omega)]
                  exact ((hesr _ e k x h hx).keep K (nh_noNew (nh_cell (nhs_get hesn h) hx))).anyN
        · cases h
      · cases h
    · cases h
  · cases h
end
end Go.Ln
namespace Go.Ln
open Go
variable {w w' : World} {ρ ρ' ρ'' : Own} {rt rt' rt'' : Store} {N : Nat→Nat→Prop}
def rootOf : V→Root
  | .usl s es=>⟨0,s,es⟩
  | .uptr e=>⟨0,(cells e).length,[e]⟩
  | _=>⟨0,0,[]⟩
def handleOf (id : Nat) : V→V
  | .usl s es=>.hs id 0 [] s 0 es.length
  | .uptr e=>.hp id 0 [] (cells e).length 0 0
  | v=>v
theorem own_or (v : V) : notOwn v ∨ (∃ s es,v=.usl s es) ∨ ∃ e,v=.uptr e:=by cases v <;> simp [notOwn]
abbrev NewR:=Nat × Nat × Root
theorem instC_own {c id k : Nat} {x : V} {vs : List V} (h : ¬ notOwn x) : instC c id k (x :: vs)=(handleOf id x :: (instC c (id + 1) (k + 1) vs).1,(c,k,rootOf x) :: (instC c (id + 1) (k + 1) vs).2):=by
  cases x <;> first | rfl | exact absurd trivial h
theorem instC_not {c id k : Nat} {x : V} {vs : List V} (h : notOwn x) : instC c id k (x :: vs)=(x :: (instC c id (k + 1) vs).1,(instC c id (k + 1) vs).2):=by
  cases x <;> first | rfl | exact h.elim
theorem instC_spec {c : Nat} : ∀ {vs : List V} {id k : Nat}, (instC c id k vs).1.length = vs.length ∧
    (∀ (j : Nat) (e : NewR), (instC c id k vs).2[j]? = some e → ∃ k' x, vs[k']? = some x ∧ e = (c, k + k', rootOf x) ∧ ¬ notOwn x) ∧
    (∀ (k' : Nat) (x : V), vs[k']? = some x → (notOwn x ∧ (instC c id k vs).1[k']? = some x) ∨ (¬ notOwn x ∧ ∃ j : Nat, (instC c id k vs).2[j]? = some (c, k + k', rootOf x) ∧ (instC c id k vs).1[k']? = some (handleOf (id + j) x))) ∧
    (∀ (i j : Nat) (e e' : NewR), (instC c id k vs).2[i]? = some e → (instC c id k vs).2[j]? = some e' → e.2.1 = e'.2.1 → i = j)
  | [], id, k => by simp [instC]
  | x :: vs, id, k => by
    by_cases hx : notOwn x
    · rw [instC_not hx]
      obtain ⟨h1, h2, h3, h4⟩ := instC_spec (c := c) (vs := vs) (id := id) (k := k + 1)
      refine ⟨by simp [h1], fun j e he => ?_, fun k' y hy => ?_, h4⟩
      · obtain ⟨k', y, hy, e1, e2⟩ := h2 j e he
        exact ⟨k' + 1, y, by simpa using hy, by rw [e1]; congr 2; omega, e2⟩
      · cases k' with
        | zero => simp at hy; subst hy; exact .inl ⟨hx, by simp⟩
        | succ k' =>
          rcases h3 k' y (by simpa using hy) with h | ⟨h, j, hj, hj'⟩
          · exact .inl ⟨h.1, by simpa using h.2⟩
          · exact .inr ⟨h, j, by rw [hj]; congr 3; omega, by simpa using hj'⟩
    · rw [instC_own hx]
      obtain ⟨h1, h2, h3, h4⟩ := instC_spec (c := c) (vs := vs) (id := id + 1) (k := k + 1)
      refine ⟨by simp [h1], fun j e he => ?_, fun k' y hy => ?_, fun i j e e' he he' heq => ?_⟩
      · cases j with
        | zero => simp at he; subst he; exact ⟨0, x, by simp, by simp, hx⟩
        | succ j =>
          obtain ⟨k', y, hy, e1, e2⟩ := h2 j e (by simpa using he)
          exact ⟨k' + 1, y, by simpa using hy, by rw [e1]; congr 2; omega, e2⟩
      · cases k' with
        | zero => simp at hy; subst hy; exact .inr ⟨hx, 0, by simp, by simp⟩
        | succ k' =>
          rcases h3 k' y (by simpa using hy) with h | ⟨h, j, hj, hj'⟩
          · exact .inl ⟨h.1, by simpa using h.2⟩
          · refine .inr ⟨h, j + 1, ?_, ?_⟩
            · simp only [List.getElem?_cons_succ]; rw [hj]; congr 3; omega
            · simp only [List.getElem?_cons_succ]; rw [hj']; congr 2; omega
      · cases i with
        | zero =>
          cases j with
          | zero => rfl
          | succ j =>
            simp at he; subst he
            obtain ⟨k', y, hy, e1, e2⟩ := h2 j e' (by simpa using he')
            subst e1
            simp at heq
            omega
        | succ i =>
          cases j with
          | zero =>
            simp at he'; subst he'
            obtain ⟨k', y, hy, e1, e2⟩ := h2 i e (by simpa using he)
            subst e1
            simp at heq
            omega
          | succ j => rw [h4 i j e e' (by simpa using he) (by simpa using he') heq]
theorem handle_one {id : Nat} {x : V} (h : ¬ notOwn x) : isAggV (handleOf id x)=false:=by cases x <;> first | rfl | exact absurd trivial h
theorem inst1_spec {id c : Nat} {v : V} : isAggV (inst1 id c v).1=isAggV v ∧ (cells (inst1 id c v).1).length=(cells v).length ∧ (inst1 id c v).2=(instC c id 0 (cells v)).2 ∧ cells (inst1 id c v).1=(instC c id 0 (cells v)).1:=by
  by_cases ha : isAggV v=true
  · cases v <;> simp [isAggV] at ha
    rename_i cs
    have:=(instC_spec (c:=c) (vs:=cs) (id:=id) (k:=0)).1
    exact ⟨rfl,this,rfl,rfl⟩
  · have ha' : isAggV v=false:=by simpa using ha
    have hc:=cells_one ha'
    have e1 : (inst1 id c v).1=(instC c id 0 [v]).1.headD .und:=by
      unfold inst1
      rw [hc]
      cases v <;> first | rfl | exact absurd rfl ha
    have e2 : ∃ y,(instC c id 0 [v]).1=[y] ∧ isAggV y=false:=by
      by_cases hn : notOwn v
      · rw [instC_not hn]; exact ⟨v,rfl,ha'⟩
      · rw [instC_own hn]; exact ⟨_,rfl,handle_one hn⟩
    obtain ⟨y,e2,e3⟩:=e2
    rw [e2] at e1
    simp at e1
    rw [e1]
    refine ⟨by rw [e3,ha'],by rw [cells_one e3,hc]; rfl,by simp [inst1],by rw [cells_one e3,hc,e2]⟩
theorem inst1s_spec : ∀ {vs : List V} {id c : Nat}, (inst1s id c vs).1.length = vs.length ∧
    (∀ (j : Nat) (e : NewR), (inst1s id c vs).2[j]? = some e → ∃ c' v k x, vs[c']? = some v ∧ (cells v)[k]? = some x ∧ e = (c + c', k, rootOf x) ∧ ¬ notOwn x) ∧
    (∀ (c' : Nat) (v : V), vs[c']? = some v → ∃ y, (inst1s id c vs).1[c']? = some y ∧ isAggV y = isAggV v ∧ (cells y).length = (cells v).length ∧
      ∀ (k : Nat) (x : V), (cells v)[k]? = some x → (notOwn x ∧ (cells y)[k]? = some x) ∨ (¬ notOwn x ∧ ∃ j : Nat, (inst1s id c vs).2[j]? = some (c + c', k, rootOf x) ∧ (cells y)[k]? = some (handleOf (id + j) x))) ∧
    (∀ (i j : Nat) (e e' : NewR), (inst1s id c vs).2[i]? = some e → (inst1s id c vs).2[j]? = some e' → e.1 = e'.1 → e.2.1 = e'.2.1 → i = j)
  | [], id, c => by simp [inst1s]
  | v :: vs, id, c => by
    obtain ⟨a1, a2, a3, a4⟩ := inst1_spec (id := id) (c := c) (v := v)
    obtain ⟨b1, b2, b3, b4⟩ := instC_spec (c := c) (vs := cells v) (id := id) (k := 0)
    obtain ⟨h1, h2, h3, h4⟩ := inst1s_spec (vs := vs) (id := id + (inst1 id c v).2.length) (c := c + 1)
    simp only [inst1s]
    rw [← a3] at b2 b3 b4
    refine ⟨by simp [h1], fun j e he => ?_, fun c' y hy => ?_, fun i j e e' he he' q1 q2 => ?_⟩
    · by_cases hj : j < (inst1 id c v).2.length
      · rw [List.getElem?_append_left hj] at he
        obtain ⟨k', x, hx, e1, e2⟩ := b2 j e he
        exact ⟨0, v, k', x, by simp, hx, by simpa using e1, e2⟩
      · rw [List.getElem?_append_right (by omega)] at he
        obtain ⟨c', v', k, x, q1, q2, q3, q4⟩ := h2 _ e he
        exact ⟨c' + 1, v', k, x, by simpa using q1, q2, by rw [q3]; congr 1; omega, q4⟩
    · cases c' with
      | zero =>
        simp at hy
        subst hy
        refine ⟨(inst1 id c v).1, by simp, a1, a2, fun k x hx => ?_⟩
        rw [a4]
        rcases b3 k x hx with h | ⟨h, j, hj, hj'⟩
        · exact .inl h
        · refine .inr ⟨h, j, ?_, hj'⟩
          rw [List.getElem?_append_left (List.getElem?_eq_some_iff.1 hj).1, hj]
          simp
      | succ c' =>
        obtain ⟨y', e1, e2, e3, e4⟩ := h3 c' y (by simpa using hy)
        refine ⟨y', by simpa using e1, e2, e3, fun k x hx => ?_⟩
        rcases e4 k x hx with h | ⟨h, j, hj, hj'⟩
        · exact .inl h
        · refine .inr ⟨h, (inst1 id c v).2.length + j, ?_, by rw [hj']; congr 2; omega⟩
          rw [List.getElem?_append_right (by omega), Nat.add_sub_cancel_left, hj]
          congr 2
          omega
    · by_cases hi : i < (inst1 id c v).2.length <;> by_cases hj : j < (inst1 id c v).2.length
      · rw [List.getElem?_append_left hi] at he
        rw [List.getElem?_append_left hj] at he'
        exact b4 i j e e' he he' q2
      · rw [List.getElem?_append_left hi] at he
        rw [List.getElem?_append_right (by omega)] at he'
        obtain ⟨k', x, _, e1, _⟩ := b2 i e he
        obtain ⟨c', v', k, x', _, _, e3, _⟩ := h2 _ e' he'
        subst e1 e3
        simp at q1
        omega
      · rw [List.getElem?_append_right (by omega)] at he
        rw [List.getElem?_append_left hj] at he'
        obtain ⟨k', x, _, e1, _⟩ := b2 j e' he'
        obtain ⟨c', v', k, x', _, _, e3, _⟩ := h2 _ e he
        subst e1 e3
        simp at q1
        omega
      · rw [List.getElem?_append_right (by omega)] at he he'
        have := h4 _ _ e e' he he' q1 q2
        omega
end Go.Ln
namespace Go.Ln
open Go
variable {w w' : World} {ρ ρ' ρ'' : Own} {rt rt' rt'' : Store} {N : Nat→Nat→Prop}
def posR : List NewR→Nat→Nat→Option Nat
  | [],_,_=>none
  | e :: R,c,k=>if e.1=c ∧ e.2.1=k then some 0 else (posR R c k).map (· + 1)
theorem posR_get : ∀ {R : List NewR} {c k j : Nat},posR R c k=some j→∃ r,R[j]?=some (c,k,r)
  | [],c,k,j,h=>by simp [posR] at h
  | e :: R,c,k,j,h=>by
    simp only [posR] at h
    split at h
    · rename_i he
      cases h
      obtain ⟨e1,e2,e3⟩:=e
      simp at he
      exact ⟨e3,by simp [he.1,he.2]⟩
    · simp only [Option.map_eq_some_iff] at h
      obtain ⟨j',h',rfl⟩:=h
      obtain ⟨r,hr⟩:=posR_get h'
      exact ⟨r,by simpa using hr⟩
theorem posR_some : ∀ {R : List NewR} {c k j : Nat} {r : Root},R[j]?=some (c,k,r)→∃ j',posR R c k=some j'
  | [],c,k,j,r,h=>by simp at h
  | e :: R,c,k,j,r,h=>by
    simp only [posR]
    split
    · exact ⟨0,rfl⟩
    · cases j with
      | zero=>simp at h; subst h; rename_i hn; exact absurd ⟨rfl,rfl⟩ hn
      | succ j =>
        obtain ⟨j',h'⟩:=posR_some (R:=R) (c:=c) (k:=k) (j:=j) (r:=r) (by simpa using h)
        exact ⟨j' + 1,by rw [h']; rfl⟩
def placeOwn (ρ : Own) (q id : Nat) (R : List NewR) : Own:=fun b =>
  match ρ b with
  | some (o,l)=>if o=q then (match l with
    | x :: t=>(posR R x.1 x.2).map fun j=>(id + j,t)
    | []=>none) else some (o,l)
  | none=>none
theorem placeOwn_none {q id R b} (h : ρ b=none) : placeOwn ρ q id R b=none:=by simp [placeOwn,h]
theorem placeOwn_other {q id R b o l} (h : ρ b=some (o,l)) (hn : o ≠ q) : placeOwn ρ q id R b=some (o,l):=by simp [placeOwn,h,hn]
theorem placeOwn_moved {q id R b c k t j} (h : ρ b=some (q,(c,k) :: t)) (hj : posR R c k=some j) : placeOwn ρ q id R b=some (id + j,t):=by simp [placeOwn,h,hj]
theorem placeOwn_inv {q id R b o l} (h : placeOwn ρ q id R b=some (o,l)) : (ρ b=some (o,l) ∧ o ≠ q) ∨ ∃ c k j,ρ b=some (q,(c,k) :: l) ∧ posR R c k=some j ∧ o=id + j:=by
  unfold placeOwn at h
  split at h
  · rename_i o' l' hb
    split at h
    · rename_i hq
      subst hq
      split at h
      · rename_i x t
        simp only [Option.map_eq_some_iff] at h
        obtain ⟨j,hj,h⟩:=h
        cases h
        exact .inr ⟨x.1,x.2,j,hb,hj,rfl⟩
      · cases h
    · rename_i hq
      cases h
      exact .inl ⟨hb,hq⟩
  · cases h
theorem addRoots_low {id o : Nat} {R : List NewR} (h : ¬ (id ≤ o ∧ o < id + R.length)) : addRoots rt id R o=rt o:=by unfold addRoots; rw [if_neg h]
theorem addRoots_at {id j : Nat} {R : List NewR} (h : j < R.length) : addRoots rt id R (id + j)=(R[j]?).map fun x=>x.2.2:=by
  unfold addRoots
  rw [if_pos (by omega),Nat.add_sub_cancel_left]
structure Placed (N : Nat→Nat→Prop) (w : World) (ρ : Own) (rt : Store) (ρ' : Own) (rt' : Store) (id n : Nat) (ys : List V) (p : Nat→Value) : Prop where
  rok : RtOk w ρ' rt'
  inj : Inj ρ'
  rtn : RtN rt'
  keep : Keep N w ρ rt w ρ' rt'
  lab : Lab w ρ' rt' noU
  val : ∀ (c : Nat) (y : V),ys[c]?=some y→Slot w ρ' rt' nowhere y (p c) ∧ ∀ Un : Nat→Prop,(∀ o,id ≤ o→o < id + n→¬ Un o)→noNew (NewOf Un rt') y
  nv : ∀ o r',rt' o=some r'→rt o=some r' ∨ (id ≤ o ∧ o < id + n)
  f0 : ∀ b l,ρ' b=some (0,l)→ρ b=some (0,l)
theorem placeAll (H : RtOk w ρ rt) (J : Inj ρ) (hr : RtN rt) {q : Nat} (hL : Lab w ρ rt (fun o _ => o = 0 ∨ o = q)) (hq0 : q ≠ 0) (hq : rt q = none) {id : Nat} {vs : List V} (hid0 : 0 < id) (hf : ∀ o, id ≤ o → o < id + (inst1s id 0 vs).2.length → rt o = none) (hN : ∀ o nv, id ≤ o → o < id + (inst1s id 0 vs).2.length → N o nv) {p : Nat → Value}
    (hv : ∀ (c : Nat) (v : V), vs[c]? = some v → Slot w ρ rt (fun k => some (q, [(c, k)])) v (p c) ∧ nh v) :
    Placed N w ρ rt (placeOwn ρ q id (inst1s id 0 vs).2) (addRoots rt id (inst1s id 0 vs).2) id (inst1s id 0 vs).2.length (inst1s id 0 vs).1 p := by
  obtain ⟨s1, s2, s3, s4⟩ := inst1s_spec (vs := vs) (id := id) (c := 0)
  generalize hys : (inst1s id 0 vs).1 = ys at s1 s3
  generalize hR : (inst1s id 0 vs).2 = R at s2 s3 s4 hf hN
  have pos : ∀ (j c k : Nat) (r : Root), R[j]? = some (c, k, r) → posR R c k = some j := by
    intro j c k r h
    obtain ⟨j', h'⟩ := posR_some h
    obtain ⟨r', h''⟩ := posR_get h'
    rw [h', s4 j' j _ _ h'' h rfl rfl]
  have K : Keep N w ρ rt w (placeOwn ρ q id R) (addRoots rt id R) := by
    refine ⟨fun b hb _ => ⟨placeOwn_none hb, rfl⟩, fun o nv path hNo hl => ?_, fun b l hb => ⟨placeOwn_other hb (Ne.symm hq0), rfl⟩⟩
    have ho : ¬ (id ≤ o ∧ o < id + R.length) := fun h => hNo (hN o nv h.1 h.2)
    have hl' : live rt o nv path := by simpa [live, look, valid, addRoots_low ho] using hl
    refine ⟨hl', fun b n hb hn => ⟨placeOwn_other hb ?_, hn⟩⟩
    rintro rfl
    simp [live, look, valid, hq] at hl'
  have roots : ∀ (j : Nat) (e : NewR), R[j]? = some e → ∃ c k x v, e = (c, k, rootOf x) ∧ ¬ notOwn x ∧ nh x ∧ vs[c]? = some v ∧ (cells v)[k]? = some x ∧ ∃ u, RepV w ρ rt (some (q, [(c, k)])) x u := by
    intro j e he
    obtain ⟨c, v, k, x, h1, h2, h3, h4⟩ := s2 j e he
    rw [Nat.zero_add] at h3
    obtain ⟨⟨g, _, hg⟩, hn⟩ := hv c v h1
    exact ⟨c, k, x, v, h3, h4, nh_cell hn h2, h1, h2, g k, hg k x h2⟩
  refine ⟨?_, ?_, ?_, K, ?_, ?_, ?_, fun b l h => ?_⟩
  rotate_right
  · rcases placeOwn_inv h with ⟨h1, _⟩ | ⟨_, _, _, _, _, h3⟩
    · exact h1
    · omega
  · intro o r h
    by_cases ho : ¬ (id ≤ o ∧ o < id + R.length)
    · rw [addRoots_low ho] at h
      exact RowOk.under K (fun b l hb _ => ⟨placeOwn_other hb (by rintro rfl; rw [hq] at h; cases h), rfl⟩) (H o r h) (hr o r h)
    · obtain ⟨j, rfl⟩ : ∃ j, o = id + j := ⟨o - id, by omega⟩
      rw [addRoots_at (by omega)] at h
      simp only [Option.map_eq_some_iff] at h
      obtain ⟨e, he, rfl⟩ := h
      obtain ⟨c, k, x, v, rfl, h1, h2, _, _, u, hu⟩ := roots j e he
      have hmv : ∀ b l, ρ b = some (q, [(c, k)] ++ l) → placeOwn ρ q id R b = some (id + j, [] ++ l) ∧ w.heap[b]? = w.heap[b]? := fun b l hb => ⟨placeOwn_moved hb (pos j c k _ he), rfl⟩
      rcases own_or x with h | ⟨s, es, rfl⟩ | ⟨e, rfl⟩
      · exact absurd h h1
      · exact RowOk.move K hmv (rowOk_usl hu) (by simpa [rootOf, nh] using h2)
      · exact RowOk.move K hmv (rowOk_uptr hu) (by simpa [rootOf, nh, nhs] using h2)
  · rintro b b' ⟨o, l⟩ h h'
    rcases placeOwn_inv h with ⟨h1, h2⟩ | ⟨c, k, j, h1, h2, h3⟩ <;> rcases placeOwn_inv h' with ⟨h1', h2'⟩ | ⟨c', k', j', h1', h2', h3'⟩
    · exact J _ _ _ h1 h1'
    · exfalso
      rcases (hL b o l h1).2 with (h | h) | ⟨r, h⟩
      · omega
      · exact h2 h
      · obtain ⟨r9, hr9⟩ := posR_get h2'
        have := (List.getElem?_eq_some_iff.1 hr9).1
        rw [hf o (by omega) (by omega)] at h; cases h
    · exfalso
      rcases (hL b' o l h1').2 with (h | h) | ⟨r, h⟩
      · omega
      · exact h2' h
      · obtain ⟨r9, hr9⟩ := posR_get h2
        have := (List.getElem?_eq_some_iff.1 hr9).1
        rw [hf o (by omega) (by omega)] at h; cases h
    · have : j = j' := by omega
      subst this
      obtain ⟨r, hr1⟩ := posR_get h2
      obtain ⟨r', hr2⟩ := posR_get h2'
      rw [hr1] at hr2
      cases hr2
      exact J _ _ _ h1 h1'
  · intro o r h
    by_cases ho : ¬ (id ≤ o ∧ o < id + R.length)
    · rw [addRoots_low ho] at h
      exact hr o r h
    · obtain ⟨j, rfl⟩ : ∃ j, o = id + j := ⟨o - id, by omega⟩
      rw [addRoots_at (by omega)] at h
      simp only [Option.map_eq_some_iff] at h
      obtain ⟨e, he, rfl⟩ := h
      obtain ⟨c, k, x, v, rfl, h1, h2, _⟩ := roots j e he
      rcases own_or x with h | ⟨s, es, rfl⟩ | ⟨e, rfl⟩
      · exact absurd h h1
      · simpa [rootOf, nh] using h2
      · simpa [rootOf, nh, nhs] using h2
  · refine ⟨fun b o l h => ?_, by rw [addRoots_low (by omega)]; exact hL.z, fun b l h => ?_⟩
    rotate_left
    · rcases placeOwn_inv h with ⟨h1, _⟩ | ⟨_, _, _, _, _, h3⟩
      · exact hL.f _ _ h1
      · omega
    rcases placeOwn_inv h with ⟨h1, h2⟩ | ⟨c, k, j, h1, h2, h3⟩
    · refine ⟨(hL b o l h1).1, ?_⟩
      rcases (hL b o l h1).2 with (h | h) | ⟨r, h⟩
      · exact .inl h
      · exact absurd h h2
      · exact .inr ⟨r, by rw [addRoots_low (fun h' => by rw [hf o h'.1 h'.2] at h; cases h)]; exact h⟩
    · obtain ⟨r, hr'⟩ := posR_get h2
      exact ⟨(hL b _ _ h1).1, .inr ⟨r, by rw [h3, addRoots_at (List.getElem?_eq_some_iff.1 hr').1, hr']; rfl⟩⟩
  · intro c y hy
    have hc : c < vs.length := by rw [← s1]; exact (List.getElem?_eq_some_iff.1 hy).1
    have hvc : vs[c]? = some vs[c] := List.getElem?_eq_getElem hc
    obtain ⟨y', e1, e2, e3, e4⟩ := s3 c _ hvc
    rw [hy] at e1
    cases e1
    obtain ⟨⟨g, hp, hg⟩, hn⟩ := hv c _ hvc
    have hx : ∀ (k : Nat) z, (cells y)[k]? = some z → ∃ x, (cells vs[c])[k]? = some x := fun k z hz => by
      have := (List.getElem?_eq_some_iff.1 hz).1
      exact ⟨_, List.getElem?_eq_getElem (by omega)⟩
    have each : ∀ (k : Nat) z, (cells y)[k]? = some z → RepV w (placeOwn ρ q id R) (addRoots rt id R) none z (g k) ∧ ∀ Un : Nat → Prop, (∀ o, id ≤ o → o < id + R.length → ¬ Un o) → noNew (NewOf Un (addRoots rt id R)) z := by
      intro k z hz
      obtain ⟨x, hx⟩ := hx k z hz
      have hxn := nh_cell hn hx
      have hxr := hg k x hx
      rcases e4 k x hx with ⟨h1, h2⟩ | ⟨h1, j, hj, h2⟩
      · rw [hz] at h2
        cases h2
        exact ⟨(hxr.any h1 (L' := none)).keep K (nh_noNew hxn), fun _ _ => nh_noNew hxn⟩
      · rw [hz] at h2
        cases h2
        rw [Nat.zero_add] at hj
        have hjl := (List.getElem?_eq_some_iff.1 hj).1
        have hpos := pos j c k _ hj
        have nn : ∀ Un : Nat → Prop, (∀ o, id ≤ o → o < id + R.length → ¬ Un o) → ¬ NewOf Un (addRoots rt id R) (id + j) 0 := by
          rintro Un hUn (h | ⟨r, h, h'⟩)
          · exact hUn _ (by omega) (by omega) h
          · omega
        rcases own_or x with h | ⟨s, es, rfl⟩ | ⟨e, rfl⟩
        · exact absurd h h1
        · refine ⟨?_, by simpa [handleOf, noNew] using nn⟩
          obtain ⟨A, cc, g2, hu, hlc, hs, hb, _⟩ := usl_parts hxr
          rw [hu]
          refine .hs _ _ _ _ _ _ _ _ (fun _ => ⟨cc, A, rfl, hlc, fun h0 => ?_⟩) trivial
          obtain ⟨b, arr, T, q1, q2, q3, q4, _⟩ := hb h0
          exact ⟨b, arr.size, placeOwn_moved q1 hpos, ⟨arr, T, q2, rfl⟩, by rw [q3]; simp, by simpa using q4⟩
        · refine ⟨?_, by simpa [handleOf, noNew] using nn⟩
          generalize g k = u at hxr
          cases hxr with
          | uptr _ _ b arr T g2 hρ hb hc hh =>
            exact .hp _ _ _ _ _ _ _ _ (fun _ => ⟨b, arr.size, placeOwn_moved hρ hpos, ⟨arr, T, hb, rfl⟩, by simp⟩) trivial
    refine ⟨⟨g, ?_, fun k z hz => (each k z hz).1⟩, ?_⟩
    · rw [hp]
      unfold pack
      rw [e2, e3]
    · by_cases ha : isAggV y = true
      · cases y <;> simp [isAggV] at ha
        intro Un hUn
        simp only [noNew]
        refine noNews_iff.2 fun z hz => ?_
        obtain ⟨k, hk⟩ := List.mem_iff_getElem?.1 hz
        exact (each k z hk).2 Un hUn
      · have ha' : isAggV y = false := by simpa using ha
        exact (each 0 y (by simp [cells_one ha'])).2
  · intro o r h
    by_cases ho : ¬ (id ≤ o ∧ o < id + R.length)
    · rw [addRoots_low ho] at h
      exact .inl h
    · obtain ⟨j, rfl⟩ : ∃ j, o = id + j := ⟨o - id, by omega⟩
      rw [addRoots_at (by omega)] at h
      simp only [Option.map_eq_some_iff] at h
      obtain ⟨e, he, rfl⟩ := h
      have := (List.getElem?_eq_some_iff.1 he).1
      exact .inr ⟨by omega, by omega⟩
end Go.Ln
namespace Go.Ln
open Go
variable {w w' : World} {ρ ρ' ρ'' : Own} {rt rt' rt'' : Store} {N : Nat→Nat→Prop}
def rt0 : Store:=fun _=>none
structure Ground where
  base : Nat
  inv : World→Prop
  st : ∀ w w',(∀ b,b < base→w'.heap[b]?=w.heap[b]?)→Wk w w'→inv w→inv w'
def Ground.ok (G : Ground) (w : World) (ρ : Own) : Prop:=G.base ≤ w.heap.size ∧ (∀ b,b < G.base→ρ b=none) ∧ G.inv w
theorem Ground.keep {G : Ground} (h : G.ok w ρ) (hf : ∀ b,ρ b=none→b < w.heap.size→ρ' b=none ∧ w'.heap[b]?=w.heap[b]?) (hw : Wk w w') : G.ok w' ρ' :=
  ⟨Nat.le_trans h.1 hw.size,fun b hb=>(hf b (h.2.1 b hb) (Nat.lt_of_lt_of_le hb h.1)).1,G.st w w' (fun b hb=>(hf b (h.2.1 b hb) (Nat.lt_of_lt_of_le hb h.1)).2) hw h.2.2⟩
structure Inn (w : World) (ρ : Own) : Prop where
  inj : Inj ρ
  lab : ∀ b o l,ρ b=some (o,l)→b < w.heap.size ∧ (o=0 ∨ o=1)
  f : ∀ b l,ρ b=some (0,l)→l=[(b,0)]
structure Aft (w : World) (ρ : Own) (w' : World) (ρ' : Own) : Prop where
  wk : Wk w w'
  fr : ∀ b,ρ b=none→b < w.heap.size→ρ' b=none ∧ w'.heap[b]?=w.heap[b]?
  k0 : ∀ b l,ρ b=some (0,l)→ρ' b=some (0,l) ∧ w'.heap[b]?=w.heap[b]?
  f0 : ∀ b l,ρ' b=some (0,l)→ρ b=some (0,l)
  inj : Inj ρ'
  lab : ∀ b o l,ρ' b=some (o,l)→b < w'.heap.size ∧ (o=0 ∨ o=1 ∨ o=2)
def ArgsOk (w : World) (ρ : Own) (vs : List V) (us : List Value) : Prop :=
  vs.length=us.length ∧ ∀ (a : Nat) v u,vs[a]?=some v→us[a]?=some u→Slot w ρ rt0 (fun k=>some (1,[(a,k)])) v u ∧ nh v
def isTup : V→Bool
  | .tup _=>true
  | _=>false
def ResOk (w : World) (ρ : Own) (r : V) (u : Value) : Prop :=
  ∃ p : Nat→Value,u=(if isTup r then .tuple (arrOf (comps r).length p) else p 0) ∧ ∀ (c : Nat) v,(comps r)[c]?=some v→Slot w ρ rt0 (fun k=>some (2,[(c,k)])) v (p c) ∧ nh v ∧ isTup v=false
def OutsOk (w : World) (ρ : Own) (w' : World) (ρ' : Own) (own : List Bool) (vs : List V) (us : List Value) (outs : List V) : Prop :=
  ∀ (a : Nat) v u x,vs[a]?=some v→us[a]?=some u→outAt own outs a=some x →
    ∀ (g : Nat→Value),u=pack v g→∀ (k : Nat) y z,(cells x)[k]?=some y→(cells v)[k]?=some z→¬ notOwn y→nh y ∧ RepV w' ρ' rt0 (some (1,[(a,k)])) y (g k) ∧ ∀ b n,ρ b=some (1,[(a,k)])→Blk w b n→ρ' b=some (1,[(a,k)])
def Runs (P : Program) (f : FuncId) (us : Array Value) (w : World) (K : Value→World→Prop) : Prop :=
  (∃ u w',(callFunc f us).run P w=.ok (.value u) w' ∧ K u w') ∨
  ((callFunc f us).run P w=.ok (.enter f us) w ∧ Calls P f us w fun e w'=>∃ u,e=.returned u ∧ K u w')
def Good (P : Program) (G : Ground) (f : FuncId) (e : Ent) : Prop:=∀ w ρ vs us r outs,ArgsOk w ρ vs us→Inn w ρ→G.ok w ρ→e.F vs=some (r,outs) →
  Runs P f us.toArray w fun u w'=>∃ ρ',Aft w ρ w' ρ' ∧ ResOk w' ρ' r u ∧ OutsOk w ρ w' ρ' e.own vs us outs
def hid : V→Option Nat
  | .hs o _ _ _ _ _=>some o
  | .hp o _ _ _ _ _=>some o
  | _=>none
def hpath : V→Path
  | .hs _ _ p _ _ _=>p
  | .hp _ _ p _ _ _=>p
  | _=>[]
theorem givenC_mem {a : Nat} : ∀ {vs : List V} {k0 : Nat} {e : Giv}, e ∈ givenC a k0 vs ↔ ∃ k x, vs[k]? = some x ∧ hid x = some e.1 ∧ e.2 = (hpath x, a, k0 + k)
  | [], k0, e => by simp [givenC]
  | v :: vs, k0, e => by
    have ih := @givenC_mem a vs (k0 + 1) e
    have tail : (∃ k x, vs[k]? = some x ∧ hid x = some e.1 ∧ e.2 = (hpath x, a, k0 + 1 + k)) ↔ ∃ k x, (v :: vs)[k + 1]? = some x ∧ hid x = some e.1 ∧ e.2 = (hpath x, a, k0 + (k + 1)) := by
      constructor
      · rintro ⟨k, x, h1, h2, h3⟩
        exact ⟨k, x, by simpa using h1, h2, by rw [h3]; congr 2; omega⟩
      · rintro ⟨k, x, h1, h2, h3⟩
        exact ⟨k, x, by simpa using h1, h2, by rw [h3]; congr 2; omega⟩
    have hsplit : (∃ k x, (v :: vs)[k]? = some x ∧ hid x = some e.1 ∧ e.2 = (hpath x, a, k0 + k)) ↔ (hid v = some e.1 ∧ e.2 = (hpath v, a, k0)) ∨ ∃ k x, (v :: vs)[k + 1]? = some x ∧ hid x = some e.1 ∧ e.2 = (hpath x, a, k0 + (k + 1)) := by
      constructor
      · rintro ⟨k, x, h1, h2, h3⟩
        cases k with
        | zero => simp at h1; subst h1; exact .inl ⟨h2, by simpa using h3⟩
        | succ k => exact .inr ⟨k, x, h1, h2, h3⟩
      · rintro (⟨h1, h2⟩ | ⟨k, x, h1, h2, h3⟩)
        · exact ⟨0, v, by simp, h1, by simpa using h2⟩
        · exact ⟨k + 1, x, h1, h2, h3⟩
    rw [hsplit, ← tail, ← ih]
    cases v <;> simp only [givenC, hid, hpath, List.mem_cons] <;> first
      | (obtain ⟨e1, e2⟩ := e
         simp
         done)
      | (obtain ⟨e1, e2⟩ := e
         constructor
         · rintro (h | h)
           · cases h; exact .inl ⟨rfl, rfl⟩
           · exact .inr h
         · rintro (⟨h1, h2⟩ | h)
           · cases h1; cases h2; exact .inl rfl
           · exact .inr h)
theorem givenOf_mem : ∀ {own : List Bool} {vs : List V} {a0 : Nat} {e : Giv},e ∈ givenOf a0 own vs ↔ ∃ a v k x,own[a]?=some true ∧ vs[a]?=some v ∧ (cells v)[k]?=some x ∧ hid x=some e.1 ∧ e.2=(hpath x,a0 + a,k)
  | [],vs,a0,e=>by simp [givenOf]
  | b :: own,[],a0,e=>by cases b <;> simp [givenOf]
  | true :: own,v :: vs,a0,e=>by
    simp only [givenOf,List.mem_append]
    rw [givenC_mem,givenOf_mem (own:=own)]
    constructor
    · rintro (⟨k,x,h1,h2,h3⟩ | ⟨a,v',k,x,h1,h2,h3,h4,h5⟩)
      · exact ⟨0,v,k,x,by simp,by simp,h1,h2,by simpa using h3⟩
      · exact ⟨a + 1,v',k,x,by simpa using h1,by simpa using h2,h3,h4,by rw [h5]; congr 2; omega⟩
    · rintro ⟨a,v',k,x,h1,h2,h3,h4,h5⟩
      cases a with
      | zero=>simp at h2; subst h2; exact .inl ⟨k,x,h3,h4,by simpa using h5⟩
      | succ a=>exact .inr ⟨a,v',k,x,by simpa using h1,by simpa using h2,h3,h4,by rw [h5]; congr 2; omega⟩
  | false :: own,v :: vs,a0,e=>by
    simp only [givenOf]
    rw [givenOf_mem (own:=own)]
    constructor
    · rintro ⟨a,v',k,x,h1,h2,h3,h4,h5⟩
      exact ⟨a + 1,v',k,x,by simpa using h1,by simpa using h2,h3,h4,by rw [h5]; congr 2; omega⟩
    · rintro ⟨a,v',k,x,h1,h2,h3,h4,h5⟩
      cases a with
      | zero=>simp at h1
      | succ a=>exact ⟨a,v',k,x,by simpa using h1,by simpa using h2,h3,h4,by rw [h5]; congr 2; omega⟩
theorem lentOf_mem : ∀ {own : List Bool} {vs : List V} {o : Nat},(∃ (a : Nat) (v : V),own[a]? ≠ some true ∧ vs[a]?=some v ∧ o ∈ ids v)→o ∈ lentOf own vs
  | own,[],o,⟨a,v,h1,h2,h3⟩=>by simp at h2
  | [],v :: vs,o,⟨a,v',h1,h2,h3⟩=>by
    simp only [lentOf,List.mem_append]
    cases a with
    | zero=>simp at h2; subst h2; exact .inl h3
    | succ a=>exact .inr (lentOf_mem (own:=[]) ⟨a,v',by simp,by simpa using h2,h3⟩)
  | true :: own,v :: vs,o,⟨a,v',h1,h2,h3⟩=>by
    simp only [lentOf]
    cases a with
    | zero=>simp at h1
    | succ a=>exact lentOf_mem ⟨a,v',by simpa using h1,by simpa using h2,h3⟩
  | false :: own,v :: vs,o,⟨a,v',h1,h2,h3⟩=>by
    simp only [lentOf,List.mem_append]
    cases a with
    | zero=>simp at h2; subst h2; exact .inl h3
    | succ a=>exact .inr (lentOf_mem ⟨a,v',by simpa using h1,by simpa using h2,h3⟩)
theorem lookG_mem : ∀ {g : List Giv} {o : Nat} {x : Path × Nat × Nat},lookG g o=some x→(o,x) ∈ g
  | [],o,x,h=>by simp [lookG] at h
  | (o',y) :: g,o,x,h=>by
    simp only [lookG] at h
    split at h
    · rename_i he; cases h; subst he; simp
    · exact List.mem_cons_of_mem _ (lookG_mem h)
theorem lookG_some : ∀ {g : List Giv} {o : Nat} {x : Path × Nat × Nat},nodupN (g.map (·.1))=true→(o,x) ∈ g→lookG g o=some x
  | [],o,x,h,hm=>by simp at hm
  | (o',y) :: g,o,x,h,hm=>by
    simp only [List.map_cons,nodupN,Bool.and_eq_true,Bool.not_eq_true'] at h
    simp only [lookG]
    rcases List.mem_cons.1 hm with hm' | hm'
    · cases hm'; simp
    · have hne : o ≠ o':=by
        rintro rfl
        have h1:=h.1
        have : o ∈ g.map (·.1):=List.mem_map.2 ⟨(o,x),hm',rfl⟩
        simp only [List.contains_eq_mem,decide_eq_false_iff_not] at h1
        exact h1 this
      rw [if_neg hne]
      exact lookG_some h.2 hm'
theorem lookG_none {g : List Giv} {o : Nat} (h : o ∉ g.map (·.1)) : lookG g o=none:=by
  cases hl : lookG g o with
  | none=>rfl
  | some x=>exact absurd ((List.mem_map (f:=fun x=>x.1)).2 ⟨(o,x),lookG_mem hl,rfl⟩) h
end Go.Ln
namespace Go.Ln
open Go
variable {w w' : World} {ρ ρ' ρ'' : Own} {rt rt' rt'' : Store} {N : Nat→Nat→Prop}
theorem RepV.monoN (mv : Loc → Loc) (ok : Loc → Prop) (hmv : ∀ l i k, ok l → mv (l.at i k) = (mv l).at i k) (hok : ∀ l i k, ok l → ok (l.at i k))
    (K3 : ∀ b l, ok l → ρ b = some l → ρ' b = some (mv l) ∧ w'.heap[b]? = w.heap[b]?)
    {L : Option Loc} {v : V} {u : Value} (h : RepV w ρ rt L v u) : (∀ l, L = some l → ok l) → nh v → hasImm v = false → RepV w' ρ' rt' (L.map mv) v u := by
  have hms : ∀ {vs : List V} {i : Nat} {v : V}, hasImms vs = false → vs[i]? = some v → hasImm v = false := by
    intro vs
    induction vs with
    | nil => intro i v _ h; simp at h
    | cons x vs ih =>
      intro i v h e
      simp only [hasImms, Bool.or_eq_false_iff] at h
      cases i with
      | zero => simp at e; subst e; exact h.1
      | succ i => exact ih h.2 (by simpa using e)
  have hcl : ∀ {v x : V} {k : Nat}, hasImm v = false → (cells v)[k]? = some x → hasImm x = false := by
    intro v x k h e
    by_cases ha : isAggV v = true
    · cases v <;> simp [isAggV] at ha
      exact hms (by simpa [hasImm, cells] using h) e
    · rw [cells_one (by simpa using ha)] at e
      cases k <;> simp at e
      subst e
      exact h
  induction h with
  | und L => exact fun _ _ _ => .und _
  | dead L u => exact fun _ _ _ => .dead _ _
  | bool L b => exact fun _ _ _ => .bool _ _
  | int L k n => exact fun _ _ _ => .int _ _ _
  | str L s => exact fun _ _ _ => .str _ _
  | nilp L => exact fun _ _ _ => .nilp _
  | nilfn L => exact fun _ _ _ => .nilfn _
  | nilif L => exact fun _ _ _ => .nilif _
  | fn L f caps g h ih => exact fun _ hn hi => .fn _ _ _ g fun i v hv => ih i v hv (by simp) (nhs_get (by simpa [nh] using hn) hv) (hms (by simpa [hasImm] using hi) hv)
  | iface L t v g h ih => exact fun _ hn hi => .iface _ _ _ g fun i x hx => ih i x hx (by simp) (nh_cell (by simpa [nh] using hn) hx) (hcl (by simpa [hasImm] using hi) hx)
  | tup L vs p g hp h ih => exact fun _ hn hi => .tup _ _ p g hp fun c v k x hv hx => ih c v k x hv hx (by simp) (nh_cell (nhs_get (by simpa [nh] using hn) hv) hx) (hcl (hms (by simpa [hasImm] using hi) hv) hx)
  | iptr L e k b off g hb hρ hc h ih => exact fun _ _ hi => by simp [hasImm] at hi
  | isl0 L nl A c hn => exact fun _ _ _ => .isl0 _ _ _ _ hn
  | isl L es b off c s g hl h0 hρ hb hs hc h ih => exact fun _ _ hi => by simp [hasImm] at hi; subst hi; simp at h0
  | usl0 l s A => exact fun _ _ _ => .usl0 _ _ _
  | usl l s es b A c arr T g hρ hb hl hA hcap hs hc h ih =>
    intro ho hn hi
    have k := K3 b l (ho l rfl) hρ
    exact .usl _ s es b A c arr T g k.1 (by rw [k.2]; exact hb) hl hA hcap hs hc fun i e k x he hx => by
      have := ih i e k x he hx (fun l' h' => by cases h'; exact hok _ _ _ (ho l rfl)) (nh_cell (nhs_get (by simpa [nh] using hn) he) hx) (hcl (hms (by simpa [hasImm] using hi) he) hx)
      rwa [Option.map_some, hmv _ _ _ (ho l rfl)] at this
  | uptr l e b arr T g hρ hb hc h ih =>
    intro ho hn hi
    have k := K3 b l (ho l rfl) hρ
    exact .uptr _ e b arr T g k.1 (by rw [k.2]; exact hb) hc fun k x hx => by
      have := ih k x hx (fun l' h' => by cases h'; exact hok _ _ _ (ho l rfl)) (nh_cell (by simpa [nh] using hn) hx) (hcl (by simpa [hasImm] using hi) hx)
      rwa [Option.map_some, hmv _ _ _ (ho l rfl)] at this
  | hp L o nv path s i k u h h1' => exact fun _ hn _ => by simp [nh] at hn
  | hs L o nv path s off len u h h1' => exact fun _ hn _ => by simp [nh] at hn
theorem usl_of_row (J : Inj ρ) {L : Loc} {s c : Nat} {es : List V} {A : Option Addr} (h : RowOk w ρ rt L s es) (hlc : es.length ≤ c) (hcc : c ≠ 0→∃ b n,ρ b=some L ∧ Blk w b n ∧ A=some ⟨b,0,none⟩ ∧ c * s ≤ n) : RepV w ρ rt (some L) (.usl s es) (.slice A es.length c):=by
  by_cases hc0 : c=0
  · subst hc0
    have : es=[]:=List.length_eq_zero_iff.1 (by omega)
    subst this
    exact .usl0 _ _ _
  · obtain ⟨b,n,hb,⟨arr,T,hbb,rfl⟩,rfl,hle⟩:=hcc hc0
    rcases h with rfl | ⟨b2,arr2,T2,g2,i1,i2,i3,i4,i5⟩
    · exact .usl _ s [] b _ c arr T (fun _ _=>undef) hb hbb hlc (fun _=>rfl) hle (by simp) (by simp) (by simp)
    · have:=J _ _ _ hb i1
      subst this
      rw [hbb] at i2
      cases i2
      exact .usl _ _ _ b _ c arr T g2 hb hbb hlc (fun _=>rfl) hle i3 i4 i5
theorem uptr_of_row (J : Inj ρ) {L : Loc} {s b : Nat} {e : V} (h : RowOk w ρ rt L s [e]) (hb : ρ b=some L) : RepV w ρ rt (some L) (.uptr e) (.pointer (some ⟨b,0,none⟩)):=by
  rcases h with h | ⟨b2,arr2,T2,g2,i1,i2,i3,i4,i5⟩
  · cases h
  · have:=J _ _ _ hb i1
    subst this
    exact .uptr _ e b arr2 T2 (g2 0) hb i2 (fun k x hx=>by simpa using i4 0 e k x rfl hx) (fun k x hx=>i5 0 e k x rfl hx)
theorem handC_one {cc d : V} (h : handC rt cc=some d) (hc : isAggV cc=false) : isAggV d=false:=by
  unfold handC at h
  split at h
  · simp only [Option.bind_eq_some_iff] at h
    obtain ⟨r,_,x,_,h⟩:=h
    split at h <;> cases h
    rfl
  · simp only [Option.bind_eq_some_iff] at h
    obtain ⟨r,_,x,_,h⟩:=h
    split at h
    · split at h <;> cases h
      rfl
    · cases h
  · split at h <;> cases h
    exact hc
theorem handCs_get : ∀ {vs xs : List V},handCs rt vs=some xs→xs.length=vs.length ∧ ∀ (k : Nat) c,vs[k]?=some c→∃ d,xs[k]?=some d ∧ handC rt c=some d
  | [],xs,h=>by simp [handCs] at h; subst h; simp
  | v :: vs,xs,h=>by
    simp only [handCs,Option.bind_eq_some_iff,Option.map_eq_some_iff] at h
    obtain ⟨x,hx,ys,hys,rfl⟩:=h
    obtain ⟨l,ih⟩:=handCs_get hys
    refine ⟨by simp [l],fun k c hc=>?_⟩
    cases k with
    | zero=>simp at hc; subst hc; exact ⟨x,by simp,hx⟩
    | succ k=>simpa using ih k c (by simpa using hc)
theorem shares_get : ∀ {vs xs : List V},shares rt vs=some xs→xs.length=vs.length ∧ ∀ (k : Nat) c,vs[k]?=some c→∃ d,xs[k]?=some d ∧ share rt c=some d
  | [],xs,h=>by simp [shares] at h; subst h; simp
  | v :: vs,xs,h=>by
    simp only [shares,Option.bind_eq_some_iff,Option.map_eq_some_iff] at h
    obtain ⟨x,hx,ys,hys,rfl⟩:=h
    obtain ⟨l,ih⟩:=shares_get hys
    refine ⟨by simp [l],fun k c hc=>?_⟩
    cases k with
    | zero=>simp at hc; subst hc; exact ⟨x,by simp,hx⟩
    | succ k=>simpa using ih k c (by simpa using hc)
theorem argsV_get : ∀ {own : List Bool} {vs xs : List V}, argsV rt own vs = some xs → xs.length = vs.length ∧ ∀ (a : Nat) v, vs[a]? = some v → ∃ x, xs[a]? = some x ∧ ((own[a]? = some true ∧ hand rt v = some x) ∨ (own[a]? ≠ some true ∧ share1 rt v = some x))
  | own, [], xs, h => by simp [argsV] at h; subst h; simp
  | own, v :: vs, xs, h => by
    have step : ∀ (own' : List Bool) (x : V) (ys : List V), argsV rt own' vs = some ys → xs = x :: ys → (∀ a, own[a + 1]? = own'[a]?) → ((own[0]? = some true ∧ hand rt v = some x) ∨ (own[0]? ≠ some true ∧ share1 rt v = some x)) →
        xs.length = (v :: vs).length ∧ ∀ (a : Nat) v', (v :: vs)[a]? = some v' → ∃ x, xs[a]? = some x ∧ ((own[a]? = some true ∧ hand rt v' = some x) ∨ (own[a]? ≠ some true ∧ share1 rt v' = some x)) := by
      intro own' x ys h1 h2 h3 h4
      subst h2
      obtain ⟨l, ih⟩ := argsV_get h1
      refine ⟨by simp [l], fun a v' hv => ?_⟩
      cases a with
      | zero => simp at hv; subst hv; exact ⟨x, by simp, h4⟩
      | succ a =>
        obtain ⟨y, e1, e2⟩ := ih a v' (by simpa using hv)
        refine ⟨y, by simpa using e1, ?_⟩
        rw [h3]
        exact e2
    match own, h, step with
    | true :: bs, h, step =>
      simp only [argsV, Option.bind_eq_some_iff, Option.map_eq_some_iff] at h
      obtain ⟨x, hx, ys, hys, rfl⟩ := h
      exact step bs x ys hys rfl (by simp) (.inl ⟨by simp, hx⟩)
    | false :: bs, h, step =>
      simp only [argsV, Option.bind_eq_some_iff, Option.map_eq_some_iff] at h
      obtain ⟨x, hx, ys, hys, rfl⟩ := h
      exact step bs x ys hys rfl (by simp) (.inr ⟨by simp, hx⟩)
    | [], h, step =>
      simp only [argsV, Option.bind_eq_some_iff, Option.map_eq_some_iff] at h
      obtain ⟨x, hx, ys, hys, rfl⟩ := h
      exact step [] x ys hys rfl (by simp) (.inr ⟨by simp, hx⟩)
def strip : Path→Path→Option Path
  | [],l=>some l
  | x :: p,y :: l=>if x=y then strip p l else none
  | _ :: _,[]=>none
theorem strip_iff : ∀ {p l t : Path},strip p l=some t ↔ l=p ++ t
  | [],l,t=>by simp [strip]
  | x :: p,[],t=>by simp [strip]
  | x :: p,y :: l,t=>by
    simp only [strip,List.cons_append,List.cons.injEq]
    split
    · rename_i h; subst h; rw [strip_iff]; simp
    · rename_i h; exact ⟨fun h'=>(by cases h'),fun h'=>absurd h'.1.symm h⟩
theorem strip_none {p l : Path} : strip p l=none ↔ ¬ p <+: l:=by
  constructor
  · rintro h ⟨t,ht⟩
    rw [strip_iff.2 ht.symm] at h
    cases h
  · intro h
    cases hs : strip p l with
    | none=>rfl
    | some t=>exact absurd ⟨t,(strip_iff.1 hs).symm⟩ h
def callOwn (ρ : Own) (g : List Giv) (lent : List Nat) : Own:=fun b =>
  match ρ b with
  | none=>none
  | some (o,l)=>match lookG g o with
    | some (p,a,k)=>(match strip p l with
      | some t=>some (1,(a,k) :: t)
      | none=>some (0,[(b,0)]))
    | none=>if lent.contains o then none else some (0,[(b,0)])
theorem callOwn_none {g lent b} (h : ρ b=none) : callOwn ρ g lent b=none:=by simp [callOwn,h]
theorem callOwn_given {g lent b o p t a k} (h : ρ b=some (o,p ++ t)) (hg : lookG g o=some (p,a,k)) : callOwn ρ g lent b=some (1,(a,k) :: t):=by simp [callOwn,h,hg,strip_iff.2 rfl]
theorem callOwn_part {g lent b o p l a k} (h : ρ b=some (o,l)) (hg : lookG g o=some (p,a,k)) (hp : ¬ p <+: l) : callOwn ρ g lent b=some (0,[(b,0)]):=by simp [callOwn,h,hg,strip_none.2 hp]
theorem callOwn_lent {g lent b o l} (h : ρ b=some (o,l)) (hg : lookG g o=none) (hl : o ∈ lent) : callOwn ρ g lent b=none:=by simp [callOwn,h,hg,hl]
theorem callOwn_far {g lent b o l} (h : ρ b=some (o,l)) (hg : lookG g o=none) (hl : o ∉ lent) : callOwn ρ g lent b=some (0,[(b,0)]):=by simp [callOwn,h,hg,hl]
structure CallChk (own : List Bool) (args : List V) : Prop where
  nd : nodupN ((givenOf 0 own args).map (·.1))=true
  z : 0 ∉ (givenOf 0 own args).map (·.1)
  dis : ∀ o,o ∈ lentOf own args→o ∉ (givenOf 0 own args).map (·.1)
  z' : 0 ∉ lentOf own args
theorem callChk {own : List Bool} {args : List V} (h : (nodupN (0 :: (givenOf 0 own args).map (·.1)) && (lentOf own args).all (fun o=>!(0 :: (givenOf 0 own args).map (·.1)).contains o))=true) : CallChk own args:=by
  simp only [nodupN,Bool.and_eq_true,Bool.not_eq_true',List.contains_eq_mem,decide_eq_false_iff_not,List.all_eq_true,List.mem_cons,not_or] at h
  exact ⟨h.1.2,h.1.1,fun o ho=>(h.2 o ho).2,fun ho=>(h.2 0 ho).1 rfl⟩
theorem given_look {own : List Bool} {args : List V} (c : CallChk own args) {o a k : Nat} {p : Path} : lookG (givenOf 0 own args) o=some (p,a,k) ↔ ∃ v x,own[a]?=some true ∧ args[a]?=some v ∧ (cells v)[k]?=some x ∧ hid x=some o ∧ p=hpath x:=by
  constructor
  · intro h
    obtain ⟨a',v,k',x,h1,h2,h3,h4,h5⟩:=givenOf_mem.1 (lookG_mem h)
    rw [Nat.zero_add] at h5
    cases h5
    exact ⟨v,x,h1,h2,h3,h4,rfl⟩
  · rintro ⟨v,x,h1,h2,h3,h4,rfl⟩
    exact lookG_some c.nd (givenOf_mem.2 ⟨a,v,k,x,h1,h2,h3,h4,by rw [Nat.zero_add]⟩)
theorem callOwn_inn (J : Inj ρ) {U : Pl} (hL : Lab w ρ rt U) {own : List Bool} {args : List V} (c : CallChk own args) : Inn w (callOwn ρ (givenOf 0 own args) (lentOf own args)):=by
  have inv : ∀ b L,callOwn ρ (givenOf 0 own args) (lentOf own args) b=some L→(∃ o p t a k,ρ b=some (o,p ++ t) ∧ lookG (givenOf 0 own args) o=some (p,a,k) ∧ L=(1,(a,k) :: t)) ∨ (∃ o l,ρ b=some (o,l) ∧ L=(0,[(b,0)])):=by
    intro b L h
    unfold callOwn at h
    split at h
    · cases h
    · rename_i o l hb
      split at h
      · rename_i p a k hg
        split at h
        · rename_i t ht
          cases h
          exact .inl ⟨o,p,t,a,k,by rw [hb,strip_iff.1 ht],hg,rfl⟩
        · cases h
          exact .inr ⟨o,l,hb,rfl⟩
      · split at h
        · cases h
        · cases h
          exact .inr ⟨o,l,hb,rfl⟩
  refine ⟨?_,?_,?_⟩
  · intro b b' L h h'
    rcases inv b L h with ⟨o,p,l,a,k,h1,h2,rfl⟩ | ⟨o,l,h1,rfl⟩ <;> rcases inv b' _ h' with ⟨o',p',l',a',k',h1',h2',h3⟩ | ⟨o',l',h1',h3⟩
    · cases h3
      obtain ⟨v,x,e1,e2,e3,e4,e5⟩:=(given_look c).1 h2
      obtain ⟨v',x',e1',e2',e3',e4',e5'⟩:=(given_look c).1 h2'
      rw [e2] at e2'
      cases e2'
      rw [e3] at e3'
      cases e3'
      rw [e4] at e4'
      cases e4'
      rw [← e5] at e5'
      subst e5'
      exact J _ _ _ h1 h1'
    · cases h3
    · cases h3
    · cases h3; rfl
  · intro b o l h
    rcases inv b _ h with ⟨o',p',l',a,k,h1,h2,h3⟩ | ⟨o',l',h1,h3⟩
    · cases h3; exact ⟨(hL _ _ _ h1).1,.inr rfl⟩
    · cases h3; exact ⟨(hL _ _ _ h1).1,.inl rfl⟩
  · intro b l h
    rcases inv b _ h with ⟨o',p',l',a,k,h1,h2,h3⟩ | ⟨o',l',h1,h3⟩
    · cases h3
    · cases h3; rfl
theorem callOwn_keep {U : Pl} (hL : Lab w ρ rt U) {own : List Bool} {args : List V} (c : CallChk own args) : Keep N w ρ rt w (callOwn ρ (givenOf 0 own args) (lentOf own args)) rt0:=by
  refine ⟨fun b hb _=>⟨callOwn_none hb,rfl⟩,fun o nv p _ hl=>?_,fun b l hb=>⟨?_,rfl⟩⟩
  · simp [live,look,valid,rt0] at hl
  · rw [hL.f _ _ hb] at *
    exact callOwn_far hb (lookG_none c.z) c.z'
theorem callArgs (H : RtOk w ρ rt) (J : Inj ρ) (hr : RtN rt) {U : Pl} (hL : Lab w ρ rt U) {own : List Bool} {args xs : List V} {us : List Value} (c : CallChk own args) (hlen : args.length = us.length)
    (hv : ∀ (a : Nat) v u, args[a]? = some v → us[a]? = some u → Slot w ρ rt nowhere v u ∧ noNew N v) (h : argsV rt own args = some xs) : ArgsOk w (callOwn ρ (givenOf 0 own args) (lentOf own args)) xs us := by
  obtain ⟨l, hx⟩ := argsV_get h
  have K := callOwn_keep (N := N) (rt := rt) hL c
  have I := callOwn_inn J hL c
  refine ⟨by omega, fun a x u hxa hua => ?_⟩
  have hal := (List.getElem?_eq_some_iff.1 hxa).1
  obtain ⟨v, hva⟩ : ∃ v, args[a]? = some v := ⟨_, List.getElem?_eq_getElem (by omega)⟩
  obtain ⟨x', e1, e2⟩ := hx a v hva
  rw [hxa] at e1
  cases e1
  obtain ⟨⟨g, hp, hg⟩, hn⟩ := hv a v u hva hua
  have shareCell : own[a]? ≠ some true → ∀ (k : Nat) cc d, (cells v)[k]? = some cc → share rt cc = some d → RepV w (callOwn ρ (givenOf 0 own args) (lentOf own args)) rt0 none d (g k) ∧ nh d := by
    intro ho k cc d hc hd
    refine share_ok H J hr K hd (hg k cc hc) (noNew_cell hn hc) fun b o l ho' hb => ?_
    have hin : o ∈ lentOf own args := lentOf_mem ⟨a, v, ho, hva, ?_⟩
    · exact ⟨callOwn_lent hb (lookG_none (c.dis o hin)) hin, (hL _ _ _ hb).1⟩
    · by_cases ha : isAggV v = true
      · cases v <;> simp [isAggV] at ha
        rename_i cs
        simp only [ids]
        have : ∀ {cs : List V} {k : Nat} {cc : V}, cs[k]? = some cc → o ∈ ids cc → o ∈ idss cs := by
          intro cs
          induction cs with
          | nil => intro k cc h; simp at h
          | cons y cs ih =>
            intro k cc h ho
            simp only [idss, List.mem_append]
            cases k with
            | zero => simp at h; subst h; exact .inl ho
            | succ k => exact .inr (ih (by simpa using h) ho)
        exact this hc ho'
      · rw [cells_one (by simpa using ha)] at hc
        cases k <;> simp at hc
        subst hc
        exact ho'
  have finish : isAggV x = isAggV v → (cells x).length = (cells v).length → (∀ (k : Nat) d, (cells x)[k]? = some d → RepV w (callOwn ρ (givenOf 0 own args) (lentOf own args)) rt0 (some (1, [(a, k)])) d (g k) ∧ nh d) →
      Slot w (callOwn ρ (givenOf 0 own args) (lentOf own args)) rt0 (fun k => some (1, [(a, k)])) x u ∧ nh x := by
    intro h1 h2 h3
    refine ⟨⟨g, by rw [hp]; unfold pack; rw [h1, h2], fun k d hd => (h3 k d hd).1⟩, ?_⟩
    by_cases ha : isAggV x = true
    · cases x <;> simp [isAggV] at ha
      simp only [nh]
      exact nhs_iff.2 fun d hd => by
        obtain ⟨k, hk⟩ := List.mem_iff_getElem?.1 hd
        exact (h3 k d hk).2
    · exact (h3 0 x (by rw [cells_one (by simpa using ha)]; rfl)).2
  have giveCell : own[a]? = some true → ∀ (k : Nat) cc d, (cells v)[k]? = some cc → handC rt cc = some d → RepV w (callOwn ρ (givenOf 0 own args) (lentOf own args)) rt0 (some (1, [(a, k)])) d (g k) ∧ nh d := by
    intro ho k cc d hc hd
    have hr1 := hg k cc hc
    have hn1 := noNew_cell hn hc
    have row : ∀ o nv r s es, hid cc = some o → valid rt o nv (hpath cc) = some r → rowAt (hpath cc) r.s r.es = some (s, es) → RowOk w (callOwn ρ (givenOf 0 own args) (lentOf own args)) rt0 (1, [(a, k)]) s es ∧ nhs es ∧ (∀ b, ρ b = some (o, hpath cc) → callOwn ρ (givenOf 0 own args) (lentOf own args) b = some (1, [(a, k)])) ∧ live rt o nv (hpath cc) := by
      intro o nv r s es h1 h2 h3
      have hlk := (given_look c).2 ⟨v, cc, ho, hva, hc, h1, rfl⟩
      have hlook : look rt o nv (hpath cc) = some (s, es) := by simp [look, h2, h3]
      have hnes : nhs es := rowAt_nh (hr o r (valid_some h2).1) h3
      exact ⟨RowOk.move K (fun b l hb => ⟨callOwn_given hb hlk, rfl⟩) (look_rep H hlook) hnes, hnes, fun b hb => callOwn_given (t := []) (by simpa using hb) hlk, by simp [live, hlook]⟩
    unfold handC at hd
    split at hd
    · rename_i o nv p s off len
      simp only [Option.bind_eq_some_iff] at hd
      obtain ⟨r, hro, ⟨s2, es2⟩, hrow, hd⟩ := hd
      simp only at hd
      split at hd
      · rename_i hcond
        cases hd
        obtain ⟨rfl, rfl, rfl⟩ := hcond
        obtain ⟨h1, h2, h3, hlive⟩ := row o nv r s es2 rfl hro hrow
        refine ⟨?_, by simpa [nh] using h2⟩
        generalize g k = u' at hr1 ⊢
        cases hr1 with
        | hs _ _ _ _ _ _ _ _ hh _ =>
          obtain ⟨cc, A, rfl, hlc, hcc⟩ := hh hlive
          refine usl_of_row I.inj h1 hlc fun h0 => ?_
          obtain ⟨b, n, hb, hbl, rfl, hle⟩ := hcc h0
          exact ⟨b, n, h3 b hb, hbl, by simp, by simpa using hle⟩
      · cases hd
    · rename_i o nv p s i j
      simp only [Option.bind_eq_some_iff] at hd
      obtain ⟨r, hro, ⟨s2, es2⟩, hrow, hd⟩ := hd
      simp only at hd
      split at hd
      · rename_i e
        split at hd
        · rename_i hcond
          cases hd
          obtain ⟨rfl, rfl, rfl, hes⟩ := hcond
          obtain ⟨h1, h2, h3, hlive⟩ := row o nv r s [e] rfl hro hrow
          refine ⟨?_, by simpa [nh, nhs] using h2⟩
          generalize g k = u' at hr1 ⊢
          cases hr1 with
          | hp _ _ _ _ _ _ _ _ hh _ =>
            obtain ⟨b, n, hb, hbl, rfl⟩ := hh hlive
            simpa using uptr_of_row I.inj h1 (h3 b hb)
        · cases hd
      · cases hd
    · split at hd
      · rename_i hpl
        cases hd
        exact ⟨(hr1.keep K hn1).anyN, plain_nh hpl hn1⟩
      · cases hd
  rcases e2 with ⟨ho, hgv⟩ | ⟨ho, hsh⟩
  · by_cases ha : isAggV v = true
    · cases v <;> simp [isAggV] at ha
      rename_i cs
      simp only [hand, Option.map_eq_some_iff] at hgv
      obtain ⟨ds, hds, rfl⟩ := hgv
      obtain ⟨l2, hget⟩ := handCs_get hds
      refine finish rfl l2 fun k d hd => ?_
      have hk := (List.getElem?_eq_some_iff.1 hd).1
      obtain ⟨d', e1, e2⟩ := hget k _ (List.getElem?_eq_getElem (show k < cs.length by rw [← l2]; exact hk))
      have hd' : ds[k]? = some d := hd
      rw [hd'] at e1
      cases e1
      exact giveCell ho k _ d (List.getElem?_eq_getElem (show k < cs.length by rw [← l2]; exact hk)) e2
    · have ha' : isAggV v = false := by simpa using ha
      have hg' : handC rt v = some x := by cases v <;> first | exact hgv | exact absurd rfl ha
      have hh := giveCell ho 0 v x (by rw [cells_one ha']; rfl) hg'
      have hxa : isAggV x = false := handC_one hg' ha'
      refine finish (by rw [hxa, ha']) (by rw [cells_one hxa, cells_one ha']; rfl) fun k d hd => ?_
      rw [cells_one hxa] at hd
      cases k <;> simp at hd
      subst hd
      exact hh
  · by_cases ha : isAggV v = true
    · cases v <;> simp [isAggV] at ha
      rename_i cs
      simp only [share1, Option.map_eq_some_iff] at hsh
      obtain ⟨ds, hds, rfl⟩ := hsh
      obtain ⟨l2, hget⟩ := shares_get hds
      refine finish rfl l2 fun k d hd => ?_
      have hk := (List.getElem?_eq_some_iff.1 hd).1
      obtain ⟨d', e1, e2⟩ := hget k _ (List.getElem?_eq_getElem (show k < cs.length by rw [← l2]; exact hk))
      have hd' : ds[k]? = some d := hd
      rw [hd'] at e1
      cases e1
      have := shareCell ho k _ d (List.getElem?_eq_getElem (show k < cs.length by rw [← l2]; exact hk)) e2
      exact ⟨this.1.anyN, this.2⟩
    · have ha' : isAggV v = false := by simpa using ha
      have hv0 : (cells v)[0]? = some v := by rw [cells_one ha']; rfl
      by_cases hfn : ∃ f caps, v = .fn f caps
      · obtain ⟨f, caps, rfl⟩ := hfn
        simp only [share1, Option.map_eq_some_iff] at hsh
        obtain ⟨ds, hds, rfl⟩ := hsh
        obtain ⟨l2, hget⟩ := shares_get hds
        refine finish rfl rfl fun k d hd => ?_
        have : k = 0 ∧ d = .fn f ds := by
          cases k <;> simp [cells] at hd
          exact ⟨rfl, hd.symm⟩
        obtain ⟨rfl, rfl⟩ := this
        have h0 := hg 0 _ hv0
        generalize g 0 = u0 at h0 ⊢
        cases h0 with
        | fn _ _ _ g2 hg2 =>
          have each : ∀ (i : Nat) d, ds[i]? = some d → RepV w (callOwn ρ (givenOf 0 own args) (lentOf own args)) rt0 none d (g2 i) ∧ nh d := by
            intro i d hd
            have hk := (List.getElem?_eq_some_iff.1 hd).1
            have hci : caps[i]? = some (caps[i]'(by omega)) := List.getElem?_eq_getElem _
            obtain ⟨d', e1, e2⟩ := hget i _ hci
            rw [hd] at e1
            cases e1
            refine share_ok H J hr K e2 (hg2 i _ hci) (noNews_get (by simpa [noNew] using hn) hci) fun b o l ho' hb => ?_
            have hin : o ∈ lentOf own args := lentOf_mem ⟨a, _, ho, hva, by
              simp only [ids]
              have : ∀ {cs : List V} {k : Nat} {cc : V}, cs[k]? = some cc → o ∈ ids cc → o ∈ idss cs := by
                intro cs
                induction cs with
                | nil => intro k cc h; simp at h
                | cons y cs ih =>
                  intro k cc h ho
                  simp only [idss, List.mem_append]
                  cases k with
                  | zero => simp at h; subst h; exact .inl ho
                  | succ k => exact .inr (ih (by simpa using h) ho)
              exact this hci ho'⟩
            exact ⟨callOwn_lent hb (lookG_none (c.dis o hin)) hin, (hL _ _ _ hb).1⟩
          rw [← l2]
          refine ⟨.fn _ _ _ g2 fun i d hd => (each i d hd).1, ?_⟩
          simp only [nh]
          refine nhs_iff.2 fun d hd => ?_
          obtain ⟨k, hk⟩ := List.mem_iff_getElem?.1 hd
          exact (each k d hk).2
      · have hs' : share rt v = some x := by
          cases v <;> first | exact hsh | exact absurd rfl ha | exact absurd ⟨_, _, rfl⟩ hfn
        have hh := shareCell ho 0 v x hv0 hs'
        have hxa : isAggV x = false := by
          have := hs'
          unfold share at this
          split at this
          · simp only [Option.bind_eq_some_iff] at this
            obtain ⟨r, _, h⟩ := this
            split at h <;> cases h
            rfl
          · simp only [Option.bind_eq_some_iff] at this
            obtain ⟨r, _, h⟩ := this
            split at h
            · simp only [Option.map_eq_some_iff] at h
              obtain ⟨_, _, rfl⟩ := h
              rfl
            · cases h
          · cases this; rfl
          · split at this <;> cases this
            exact ha'
        refine finish (by rw [hxa, ha']) (by rw [cells_one hxa, cells_one ha']; rfl) fun k d hd => ?_
        rw [cells_one hxa] at hd
        cases k <;> simp at hd
        subst hd
        exact ⟨hh.1.anyN, hh.2⟩
end Go.Ln
namespace Go.Ln
open Go
variable {w w' : World} {ρ ρ' ρ'' : Own} {rt rt' rt'' : Store} {N : Nat→Nat→Prop}
def invA (own : List Bool) (args : List V) (a k : Nat) : Option (Nat × Path) :=
  if own[a]?=some true then (args[a]?).bind fun v=>((cells v)[k]?).bind fun x=>(hid x).map fun o=>(o,hpath x) else none
theorem invA_iff {own : List Bool} {args : List V} (c : CallChk own args) {o a k : Nat} {p : Path} : invA own args a k=some (o,p) ↔ lookG (givenOf 0 own args) o=some (p,a,k):=by
  rw [given_look c]
  unfold invA
  constructor
  · intro h
    split at h
    · rename_i ho
      simp only [Option.bind_eq_some_iff,Option.map_eq_some_iff,Prod.mk.injEq] at h
      obtain ⟨v,h1,x,h2,o',h3,rfl,rfl⟩:=h
      exact ⟨v,x,ho,h1,h2,h3,rfl⟩
    · cases h
  · rintro ⟨v,x,ho,h1,h2,h3,rfl⟩
    simp [ho,h1,h2,h3]
theorem backAt_nv {p : Path} {r r' : Root} {y : V} (h : backAt p r y=some r') : r'.nv=r.nv + 1:=by
  unfold backAt at h
  split at h
  · unfold backRoot at h
    split at h
    · split at h <;> cases h; rfl
    · split at h <;> cases h; rfl
    · cases h
  · simp only [Option.bind_eq_some_iff] at h
    obtain ⟨x,_,h⟩:=h
    split at h
    · split at h
      · simp only [Option.map_eq_some_iff] at h
        obtain ⟨_,_,rfl⟩:=h
        rfl
      · cases h
    · split at h
      · simp only [Option.map_eq_some_iff] at h
        obtain ⟨_,_,rfl⟩:=h
        rfl
      · cases h
    · cases h
theorem backAt_own {p : Path} {r r' : Root} {y : V} (h : backAt p r y=some r') : ¬ notOwn y:=by
  unfold backAt at h
  split at h
  · unfold backRoot at h
    split at h <;> first | (simp [notOwn]; done) | cases h
  · simp only [Option.bind_eq_some_iff] at h
    obtain ⟨x,_,h⟩:=h
    split at h <;> first | (simp [notOwn]; done) | cases h
theorem hand_cell {own : List Bool} {v xv xx : V} {a k : Nat} (e1 : own[a]?=some true) (e3 : (cells v)[k]?=some xx) (e6 : (own[a]?=some true ∧ hand rt v=some xv) ∨ (own[a]? ≠ some true ∧ share1 rt v=some xv)) : ∃ z,(cells xv)[k]?=some z:=by
  rcases e6 with ⟨_,hgv⟩ | ⟨h,_⟩
  · by_cases ha : isAggV v=true
    · cases v <;> simp [isAggV] at ha
      simp only [hand,Option.map_eq_some_iff] at hgv
      obtain ⟨ds,hds,rfl⟩:=hgv
      obtain ⟨l2,hget⟩:=handCs_get hds
      obtain ⟨d,hd,_⟩:=hget k _ e3
      exact ⟨d,hd⟩
    · rw [cells_one (by simpa using ha)] at e3
      cases k <;> simp at e3
      have hg2 : handC rt v=some xv:=by cases v <;> first | exact hgv | exact absurd rfl ha
      rw [cells_one (handC_one hg2 (by simpa using ha))]
      exact ⟨xv,rfl⟩
  · exact absurd e1 h
open Classical in
noncomputable def backOwn (w : World) (ρ ρ' : Own) (own : List Bool) (args : List V) (dead : List Nat) (rt2 : Store) (q : Nat) : Own:=fun b =>
  match ρ' b with
  | some (0,_)=>(match ρ b with
    | some (o,l)=>if lookG (givenOf 0 own args) o=none ∨ (rt2 o).isSome then some (o,l) else none
    | none=>none)
  | some (1,x :: l)=>match invA own args x.1 x.2 with
    | some (o,p)=>if (rt2 o).isSome then some (o,p ++ l) else none
    | none=>none
  | some (2,l)=>some (q,l)
  | some _=>none
  | none=>if b < w.heap.size then (match ρ b with
    | some (o,l)=>if lookG (givenOf 0 own args) o=none ∧ o ∉ dead then some (o,l) else none
    | none=>none) else none
section
variable {own : List Bool} {args xs : List V} {us : List Value} {outs : List V} {dead : List Nat} {rt2 : Store} {q : Nat} {r : V} {u : Value}
  (H : RtOk w ρ rt) (J : Inj ρ) (hr : RtN rt) (hL : Lab w ρ rt noU) (hq : Fresh0 rt q) (c : CallChk own args)
  (af : Aft w (callOwn ρ (givenOf 0 own args) (lentOf own args)) w' ρ') (hdead : ∀ o,o ∈ dead→o ∈ lentOf own args) (hrt2 : rt2=backSt rt (givenOf 0 own args) own outs dead)
include H J hr hL hq c af hdead hrt2
theorem back_given {b a k o : Nat} {l p} (h : ρ' b=some (1,(a,k) :: l)) (hg : lookG (givenOf 0 own args) o=some (p,a,k)) (ho : (rt2 o).isSome=true) : backOwn w ρ ρ' own args dead rt2 q b=some (o,p ++ l):=by
  simp [backOwn,h,(invA_iff c).2 hg,ho]
theorem back_res {b : Nat} {l} (h : ρ' b=some (2,l)) : backOwn w ρ ρ' own args dead rt2 q b=some (q,l):=by simp [backOwn,h]
theorem back_else {b o : Nat} {l} (h : ρ b=some (o,l)) (hg : lookG (givenOf 0 own args) o=none) (ho : o ∉ dead) : backOwn w ρ ρ' own args dead rt2 q b=some (o,l) ∧ w'.heap[b]?=w.heap[b]?:=by
  have hlt:=(hL b o l h).1
  by_cases hl : o ∈ lentOf own args
  · have h1:=af.fr b (callOwn_lent h hg hl) hlt
    exact ⟨by simp [backOwn,h1.1,hlt,h,hg,ho],h1.2⟩
  · have h1:=af.k0 b _ (callOwn_far h hg hl)
    exact ⟨by simp [backOwn,h1.1,h,hg],h1.2⟩
theorem back_part {b o a k : Nat} {l p} (h : ρ b=some (o,l)) (hg : lookG (givenOf 0 own args) o=some (p,a,k)) (hp : ¬ p <+: l) (ho : (rt2 o).isSome=true) : backOwn w ρ ρ' own args dead rt2 q b=some (o,l) ∧ w'.heap[b]?=w.heap[b]?:=by
  have h1:=af.k0 b _ (callOwn_part h hg hp)
  exact ⟨by simp [backOwn,h1.1,h,ho],h1.2⟩
theorem back_inv {b o : Nat} {l} (h : backOwn w ρ ρ' own args dead rt2 q b = some (o, l)) : (∃ p t a k, l = p ++ t ∧ ρ' b = some (1, (a, k) :: t) ∧ lookG (givenOf 0 own args) o = some (p, a, k) ∧ (rt2 o).isSome = true) ∨ (o = q ∧ ρ' b = some (2, l)) ∨
    (ρ b = some (o, l) ∧ ((lookG (givenOf 0 own args) o = none ∧ o ∉ dead) ∨ ∃ p a k, lookG (givenOf 0 own args) o = some (p, a, k) ∧ ¬ p <+: l ∧ (rt2 o).isSome = true)) := by
  unfold backOwn at h
  split at h
  · rename_i l' hb
    right; right
    have h1 := af.f0 b l' hb
    split at h
    · rename_i o1 l1 hb1
      split at h
      · rename_i hor
        cases h
        refine ⟨hb1, ?_⟩
        cases hg : lookG (givenOf 0 own args) o with
        | none =>
          refine .inl ⟨rfl, fun hd => ?_⟩
          rw [callOwn_lent hb1 hg (hdead o hd)] at h1
          cases h1
        | some x =>
          obtain ⟨p, a, k⟩ := x
          refine .inr ⟨p, a, k, rfl, ?_, hor.resolve_left (by rw [hg]; simp)⟩
          rintro ⟨t, rfl⟩
          rw [callOwn_given hb1 hg] at h1
          cases h1
      · cases h
    · cases h
  · rename_i x l' hb
    split at h
    · rename_i o' p' hi
      split at h
      · rename_i hs
        cases h
        exact .inl ⟨p', l', x.1, x.2, rfl, hb, (invA_iff c).1 hi, hs⟩
      · cases h
    · cases h
  · rename_i l' hb
    cases h
    exact .inr (.inl ⟨rfl, hb⟩)
  · cases h
  · split at h
    · split at h
      · rename_i hb
        split at h
        · rename_i hc
          cases h
          exact .inr (.inr ⟨hb, .inl hc⟩)
        · cases h
      · cases h
    · cases h
theorem back_none (hd : ∀ o,o ∈ lentOf own args→o ∈ dead) {b : Nat} (h : ρ' b=none) : backOwn w ρ ρ' own args dead rt2 q b=none:=by
  cases hb : backOwn w ρ ρ' own args dead rt2 q b with
  | none=>rfl
  | some L =>
    obtain ⟨o,l⟩:=L
    exfalso
    rcases back_inv H J hr hL hq c af hdead hrt2 hb with ⟨p,t,a,k,_,h1,_⟩ | ⟨_,h1⟩ | ⟨h1,⟨h2,h3⟩ | ⟨p,a,k,h2,h3,_⟩⟩
    · rw [h] at h1; cases h1
    · rw [h] at h1; cases h1
    · have:=(af.k0 b _ (callOwn_far h1 h2 (fun hl=>h3 (hd o hl)))).1
      rw [h] at this
      cases this
    · have:=(af.k0 b _ (callOwn_part h1 h2 h3)).1
      rw [h] at this
      cases this
theorem rt2_none {o : Nat} (h : rt o=none) : rt2 o=none:=by
  rw [hrt2]
  unfold backSt
  split
  · simp [h]
  · split
    · rfl
    · exact h
theorem rt2_else {o : Nat} {r' : Root} (h : rt2 o=some r') (hg : lookG (givenOf 0 own args) o=none) : rt o=some r' ∧ o ∉ dead:=by
  rw [hrt2] at h
  unfold backSt at h
  rw [hg] at h
  simp only at h
  split at h
  · cases h
  · rename_i hd
    exact ⟨h,by simpa using hd⟩
theorem rt2_back {o a k : Nat} {p : Path} {r' : Root} (h : rt2 o=some r') (hg : lookG (givenOf 0 own args) o=some (p,a,k)) : ∃ r x y,rt o=some r ∧ outAt own outs a=some x ∧ (cells x)[k]?=some y ∧ backAt p r y=some r':=by
  rw [hrt2] at h
  unfold backSt at h
  rw [hg] at h
  simp only [Option.bind_eq_some_iff] at h
  obtain ⟨r,h1,y,⟨x,h2,h3⟩,h4⟩:=h
  exact ⟨r,x,y,h1,h2,h3,h4⟩
theorem back_inj : Inj (backOwn w ρ ρ' own args dead rt2 q):=by
  have hq2 : rt2 q=none:=rt2_none H J hr hL hq c af hdead hrt2 (hq.at')
  have hqρ : ∀ b l,ρ b ≠ some (q,l):=by
    intro b l h
    rcases (hL _ _ _ h).2 with h | ⟨r,h⟩
    · have:=hq.p; simp only [noU] at h; omega
    · rw [hq.at'] at h; cases h
  rintro b b' ⟨o,l⟩ h h'
  rcases back_inv H J hr hL hq c af hdead hrt2 h with ⟨p,t,a,k,h0,h1,h2,h3⟩ | ⟨h1,h2⟩ | ⟨h1,h2⟩ <;> rcases back_inv H J hr hL hq c af hdead hrt2 h' with ⟨p',t',a',k',h0',h1',h2',h3'⟩ | ⟨h1',h2'⟩ | ⟨h1',h2'⟩
  · rw [h2] at h2'
    cases h2'
    rw [h0] at h0'
    have:=List.append_cancel_left h0'
    subst this
    exact af.inj _ _ _ h1 h1'
  · subst h1'
    rw [hq2] at h3
    cases h3
  · rcases h2' with ⟨h2',_⟩ | ⟨p',a',k',h2',h3',_⟩
    · rw [h2] at h2'; cases h2'
    · rw [h2] at h2'
      cases h2'
      exact absurd ⟨t,h0.symm⟩ h3'
  · subst h1
    rw [hq2] at h3'
    cases h3'
  · exact af.inj _ _ _ h2 h2'
  · subst h1
    exact absurd h1' (hqρ _ _)
  · rcases h2 with ⟨h2,_⟩ | ⟨p,a,k,h2,h3,_⟩
    · rw [h2] at h2'; cases h2'
    · rw [h2] at h2'
      cases h2'
      exact absurd ⟨t',h0'.symm⟩ h3
  · subst h1'
    exact absurd h1 (hqρ _ _)
  · exact J _ _ _ h1 h1'
theorem carry {o0 : Nat} {p0 : List (Nat × Nat)} {L : Loc} {v : V} {z : Value} (h : RepV w' ρ' rt0 (some (o0, p0)) v z) (hn : nh v) (hd : hasImm v = true → ∀ o, o ∈ lentOf own args → o ∈ dead)
    (hmv : ∀ b l, ρ' b = some (o0, p0 ++ l) → backOwn w ρ ρ' own args dead rt2 q b = some (L.1, L.2 ++ l)) : RepV w' (backOwn w ρ ρ' own args dead rt2 q) rt2 (some L) v z := by
  have e : ∀ l : List (Nat × Nat), (p0 ++ l).drop p0.length = l := fun l => by simp
  by_cases hi : hasImm v = true
  · have := h.mono0 (New := fun _ _ => True) (w' := w') (ρ' := backOwn w ρ ρ' own args dead rt2 q) (rt' := rt2) ⟨fun b hb _ => ⟨back_none H J hr hL hq c af hdead hrt2 (hd hi) hb, rfl⟩, fun o nv p hN _ => absurd trivial hN⟩
      (fun l => (L.1, L.2 ++ l.2.drop p0.length)) (fun l => l.1 = o0 ∧ p0 <+: l.2)
      (fun l i k hl => by
        obtain ⟨_, t, ht⟩ := hl
        simp [Loc.at, ← ht])
      (fun l i k hl => ⟨hl.1, hl.2.trans (by simp [Loc.at])⟩)
      (fun b l hl hb => by
        obtain ⟨l1, l2⟩ := l
        obtain ⟨rfl, t, rfl⟩ := hl
        exact ⟨by simpa using hmv b t hb, rfl⟩)
      (fun l hl => by cases hl; exact ⟨rfl, List.prefix_refl _⟩) (nh_noNew hn)
    simpa using this
  · have := h.monoN (w' := w') (ρ' := backOwn w ρ ρ' own args dead rt2 q) (rt' := rt2)
      (fun l => (L.1, L.2 ++ l.2.drop p0.length)) (fun l => l.1 = o0 ∧ p0 <+: l.2)
      (fun l i k hl => by
        obtain ⟨_, t, ht⟩ := hl
        simp [Loc.at, ← ht])
      (fun l i k hl => ⟨hl.1, hl.2.trans (by simp [Loc.at])⟩)
      (fun b l hl hb => by
        obtain ⟨l1, l2⟩ := l
        obtain ⟨rfl, t, rfl⟩ := hl
        exact ⟨by simpa using hmv b t hb, rfl⟩)
      (fun l hl => by cases hl; exact ⟨rfl, List.prefix_refl _⟩) hn (by simpa using hi)
    simpa using this
theorem back_keep {Un : Nat → Prop} (hret : ∀ o r', rt2 o = some r' → True) (hlen : args.length = us.length) (hxs : argsV rt own args = some xs)
    (hargs : ArgsOk w (callOwn ρ (givenOf 0 own args) (lentOf own args)) xs us) (hout : OutsOk w (callOwn ρ (givenOf 0 own args) (lentOf own args)) w' ρ' own xs us outs) {id : Nat} :
    Keep (NewOf Un rt) w ρ rt w' (backOwn w ρ ρ' own args dead rt2 q) rt2 := by
  refine ⟨fun b hb hl => ?_, fun o nv p hN hl => ?_, fun b l hb => ?_⟩
  · have h1 := af.fr b (callOwn_none hb) hl
    exact ⟨by simp [backOwn, h1.1, hl, hb], h1.2⟩
  · obtain ⟨r', hr2, hpv⟩ : ∃ r', rt2 o = some r' ∧ ((p = [] ∨ r'.nv = nv) ∧ (rowAt p r'.s r'.es).isSome = true) := by
      unfold live look at hl
      cases hv : valid rt2 o nv p with
      | none => simp [hv] at hl
      | some r' =>
        obtain ⟨h1, h2⟩ := valid_some hv
        simp only [hv, Option.bind_some] at hl
        exact ⟨r', h1, h2, hl⟩
    cases hg : lookG (givenOf 0 own args) o with
    | none =>
      obtain ⟨h1, h2⟩ := rt2_else H J hr hL hq c af hdead hrt2 hr2 hg
      refine ⟨?_, fun b n hb hn => ⟨(back_else H J hr hL hq c af hdead hrt2 hb hg h2).1, af.wk.blk b n hn⟩⟩
      unfold live look valid
      have : (p.isEmpty || r'.nv == nv) = true := by
        rcases hpv.1 with h | h <;> simp [h]
      simp [h1, this, hpv.2]
    | some x =>
      obtain ⟨pp, a, k⟩ := x
      obtain ⟨r1, x, y, h1, h2, h3, h4⟩ := rt2_back H J hr hL hq c af hdead hrt2 hr2 hg
      have hnv : nv ≤ r1.nv := Nat.le_of_not_lt fun hlt => hN (.inr ⟨r1, h1, hlt⟩)
      have hnv' : r'.nv = r1.nv + 1 := backAt_nv h4
      have hp : p = [] := by
        rcases hpv.1 with h | h
        · exact h
        · omega
      subst hp
      refine ⟨by simp [live, look, valid, h1, rowAt], fun b n hb hn => ⟨?_, af.wk.blk b n hn⟩⟩
      by_cases hpp : pp = []
      case neg =>
        exact (back_part H J hr hL hq c af hdead hrt2 hb hg (by simpa using hpp) (by rw [hr2]; rfl)).1
      subst hpp
      obtain ⟨v, xx, e1, e2, e3, e4, _⟩ := (given_look c).1 hg
      obtain ⟨ll, hx⟩ := argsV_get hxs
      obtain ⟨xv, e5, e6⟩ := hx a v e2
      have hua : ∃ u, us[a]? = some u := ⟨_, List.getElem?_eq_getElem (by have := (List.getElem?_eq_some_iff.1 e2).1; omega)⟩
      obtain ⟨u, hua⟩ := hua
      obtain ⟨⟨g, hp, hg'⟩, hnn⟩ := hargs.2 a xv u e5 hua
      have hyo : ¬ notOwn y := backAt_own h4
      obtain ⟨z, hz⟩ := hand_cell e1 e3 e6
      obtain ⟨q1, q2, q3⟩ := hout a xv u x e5 hua h2 g hp k y z h3 hz hyo
      have := back_given H J hr hL hq c af hdead hrt2 (q3 b n (callOwn_given (t := []) (by simpa using hb) hg) hn) hg (by rw [hr2]; rfl)
      simpa using this
  · have h0 : lookG (givenOf 0 own args) 0 = none := lookG_none c.z
    exact back_else H J hr hL hq c af hdead hrt2 hb h0 fun hd => c.z' (hdead 0 hd)
end
end Go.Ln
namespace Go.Ln
open Go
variable {w w' : World} {ρ ρ' ρ'' : Own} {rt rt' rt'' : Store} {N : Nat→Nat→Prop}
theorem hasImms_get : ∀ {vs : List V} {i : Nat} {v : V},hasImms vs=false→vs[i]?=some v→hasImm v=false
  | [],i,v,_,h=>by simp at h
  | x :: vs,i,v,h,e=>by
    simp only [hasImms,Bool.or_eq_false_iff] at h
    cases i with
    | zero=>simp at e; subst e; exact h.1
    | succ i=>exact hasImms_get h.2 (by simpa using e)
theorem hasImm_cell {v x : V} {k : Nat} (h : hasImm v=false) (e : (cells v)[k]?=some x) : hasImm x=false:=by
  by_cases ha : isAggV v=true
  · cases v <;> simp [isAggV] at ha
    exact hasImms_get (by simpa [hasImm,cells] using h) e
  · rw [cells_one (by simpa using ha)] at e
    cases k <;> simp at e
    subst e
    exact h
theorem outAt_get : ∀ {own : List Bool} {outs : List V} {a : Nat} {x : V},outAt own outs a=some x→∃ i : Nat,outs[i]?=some x
  | [],outs,a,x,h=>by simp [outAt] at h
  | true :: bs,[],a,x,h=>by cases a <;> simp [outAt] at h
  | true :: bs,y :: ys,0,x,h=>by simp [outAt] at h; exact ⟨0,by simp [h]⟩
  | true :: bs,y :: ys,a + 1,x,h=>by
    simp only [outAt] at h
    obtain ⟨i,hi⟩:=outAt_get h
    exact ⟨i + 1,by simpa using hi⟩
  | false :: bs,outs,0,x,h=>by cases outs <;> simp [outAt] at h
  | false :: bs,outs,a + 1,x,h=>by
    have : outAt bs outs a=some x:=by cases outs <;> simpa [outAt] using h
    exact outAt_get this
section
variable {own : List Bool} {args xs : List V} {us : List Value} {outs : List V} {dead : List Nat} {rt2 : Store} {q : Nat} {r : V} {u : Value}
  (H : RtOk w ρ rt) (J : Inj ρ) (hr : RtN rt) (hL : Lab w ρ rt noU) (hq : Fresh0 rt q) (c : CallChk own args)
  (af : Aft w (callOwn ρ (givenOf 0 own args) (lentOf own args)) w' ρ') (hdead : ∀ o,o ∈ dead→o ∈ lentOf own args) (hrt2 : rt2=backSt rt (givenOf 0 own args) own outs dead)
include H J hr hL hq c af hdead hrt2
theorem back_cell (hlen : args.length = us.length) (hxs : argsV rt own args = some xs) (hargs : ArgsOk w (callOwn ρ (givenOf 0 own args) (lentOf own args)) xs us)
    (hout : OutsOk w (callOwn ρ (givenOf 0 own args) (lentOf own args)) w' ρ' own xs us outs) {o a k : Nat} {p : Path} {r' : Root} (hr2 : rt2 o = some r') (hg : lookG (givenOf 0 own args) o = some (p, a, k)) :
    ∃ r1 x y z, rt o = some r1 ∧ outAt own outs a = some x ∧ (cells x)[k]? = some y ∧ backAt p r1 y = some r' ∧ ¬ notOwn y ∧ nh y ∧ RepV w' ρ' rt0 (some (1, [(a, k)])) y z ∧
      ∀ b n, callOwn ρ (givenOf 0 own args) (lentOf own args) b = some (1, [(a, k)]) → Blk w b n → ρ' b = some (1, [(a, k)]) := by
  obtain ⟨r1, x, y, h1, h2, h3, h4⟩ := rt2_back H J hr hL hq c af hdead hrt2 hr2 hg
  obtain ⟨v, xx, e1, e2, e3, e4, _⟩ := (given_look c).1 hg
  obtain ⟨ll, hx⟩ := argsV_get hxs
  obtain ⟨xv, e5, e6⟩ := hx a v e2
  obtain ⟨u, hua⟩ : ∃ u, us[a]? = some u := ⟨_, List.getElem?_eq_getElem (by have := (List.getElem?_eq_some_iff.1 e2).1; omega)⟩
  obtain ⟨⟨g, hp, hg'⟩, hnn⟩ := hargs.2 a xv u e5 hua
  have hyo : ¬ notOwn y := backAt_own h4
  obtain ⟨z, hz⟩ := hand_cell e1 e3 e6
  obtain ⟨q1, q2, q3⟩ := hout a xv u x e5 hua h2 g hp k y z h3 hz hyo
  exact ⟨r1, x, y, g k, h1, h2, h3, h4, hyo, q1, q2, q3⟩
theorem back_row (hlen : args.length = us.length) (hxs : argsV rt own args = some xs) (hargs : ArgsOk w (callOwn ρ (givenOf 0 own args) (lentOf own args)) xs us)
    (hout : OutsOk w (callOwn ρ (givenOf 0 own args) (lentOf own args)) w' ρ' own xs us outs) (him : hasImms outs = true → ∀ o, o ∈ lentOf own args → o ∈ dead) :
    RtOk w' (backOwn w ρ ρ' own args dead rt2 q) rt2 ∧ RtN rt2 ∧ Lab w' (backOwn w ρ ρ' own args dead rt2 q) rt2 (fun o _ => o = 0 ∨ o = q) := by
  have K := back_keep H J hr hL hq c af hdead hrt2 (Un := fun _ => False) (fun _ _ _ => trivial) hlen hxs hargs hout (id := q)
  have BJ := back_inj H J hr hL hq c af hdead hrt2
  refine ⟨fun o r' h => ?_, fun o r' h => ?_, ?_⟩
  · cases hg : lookG (givenOf 0 own args) o with
    | none =>
      obtain ⟨h1, h2⟩ := rt2_else H J hr hL hq c af hdead hrt2 h hg
      exact RowOk.under K (fun b l hb _ => back_else H J hr hL hq c af hdead hrt2 hb hg h2) (H o r' h1) (hr o r' h1)
    | some x =>
      obtain ⟨p, a, k⟩ := x
      obtain ⟨r1, x, y, z, h1, h2, h3, h4, h5, h6, h7, h8⟩ := back_cell H J hr hL hq c af hdead hrt2 hlen hxs hargs hout h hg
      have hsm : (rt2 o).isSome = true := by rw [h]; rfl
      have hcar := carry H J hr hL hq c af hdead hrt2 (L := (o, p)) h7 h6 (fun hi => him (by
        cases hb : hasImms outs with
        | true => rfl
        | false =>
          obtain ⟨i, hi'⟩ := outAt_get h2
          rw [hasImm_cell (hasImms_get hb hi') h3] at hi
          cases hi)) (fun b l hb => back_given H J hr hL hq c af hdead hrt2 hb hg hsm)
      have deep : ∀ {s1 : Nat} {old new es' : List V}, rowAt p r1.s r1.es = some (s1, old) → setRow new p r1.es = some es' → new.length = old.length → RowOk w' (backOwn w ρ ρ' own args dead rt2 q) rt2 (o, p) s1 new → RowOk w' (backOwn w ρ ρ' own args dead rt2 q) rt2 (o, []) r1.s es' := by
        intro s1 old new es' q1 q2 q3 q4
        refine rowOk_set (p0 := []) K BJ q3 (H o r1 h1) (hr o r1 h1) q1 q2 (fun b l hb _ hl => ?_) (fun b arr T hb hh => ?_) (by simpa using q4)
        · exact back_part H J hr hL hq c af hdead hrt2 hb hg (by simpa using hl) hsm
        · have hb' : ρ b = some (o, p ++ []) := by simpa using hb
          have hk := h8 b arr.size (callOwn_given hb' hg) ⟨arr, T, hh, rfl⟩
          have := back_given H J hr hL hq c af hdead hrt2 hk hg hsm
          obtain ⟨arr', T', q5, q6⟩ := af.wk.blk b arr.size ⟨arr, T, hh, rfl⟩
          exact ⟨by simpa using this, arr', T', q5, q6⟩
      unfold backAt at h4
      split at h4
      · unfold backRoot at h4
        split at h4
        · split at h4 <;> cases h4
          exact rowOk_usl hcar
        · rename_i e
          split at h4
          · rename_i hc
            cases h4
            have := rowOk_uptr hcar
            rw [hc] at this
            exact this
          · cases h4
        · cases h4
      · simp only [Option.bind_eq_some_iff] at h4
        obtain ⟨⟨s1, old⟩, q1, h4⟩ := h4
        simp only at h4
        split at h4
        · split at h4
          · rename_i hc
            simp only [Option.map_eq_some_iff] at h4
            obtain ⟨es', q2, rfl⟩ := h4
            obtain ⟨rfl, hc2⟩ := hc
            exact deep q1 q2 hc2 (rowOk_usl hcar)
          · cases h4
        · rename_i e
          split at h4
          · rename_i hc
            simp only [Option.map_eq_some_iff] at h4
            obtain ⟨es', q2, rfl⟩ := h4
            have := rowOk_uptr hcar
            rw [hc.1] at this
            exact deep q1 q2 (by simp [hc.2]) this
          · cases h4
        · cases h4
  · cases hg : lookG (givenOf 0 own args) o with
    | none => exact hr o r' (rt2_else H J hr hL hq c af hdead hrt2 h hg).1
    | some x =>
      obtain ⟨p, a, k⟩ := x
      obtain ⟨r1, x, y, z, h1, h2, h3, h4, h5, h6, h7, h8⟩ := back_cell H J hr hL hq c af hdead hrt2 hlen hxs hargs hout h hg
      unfold backAt at h4
      split at h4
      · unfold backRoot at h4
        split at h4
        · split at h4 <;> cases h4
          simpa [nh] using h6
        · split at h4 <;> cases h4
          simpa [nh, nhs] using h6
        · cases h4
      · simp only [Option.bind_eq_some_iff] at h4
        obtain ⟨⟨s1, old⟩, q1, h4⟩ := h4
        simp only at h4
        split at h4
        · split at h4
          · simp only [Option.map_eq_some_iff] at h4
            obtain ⟨es', q2, rfl⟩ := h4
            exact setRow_nh (by simpa [nh] using h6) (hr o r1 h1) q2
          · cases h4
        · split at h4
          · simp only [Option.map_eq_some_iff] at h4
            obtain ⟨es', q2, rfl⟩ := h4
            exact setRow_nh (by simpa [nh, nhs] using h6) (hr o r1 h1) q2
          · cases h4
        · cases h4
  · refine ⟨fun b o l h => ?_, rt2_none H J hr hL hq c af hdead hrt2 hL.z, fun b l h => ?_⟩
    · rcases back_inv H J hr hL hq c af hdead hrt2 h with ⟨p, t, a, k, h0, h1, h2, h3⟩ | ⟨h1, h2⟩ | ⟨h1, h2⟩
      · exact ⟨(af.lab _ _ _ h1).1, .inr (Option.isSome_iff_exists.1 h3)⟩
      · exact ⟨(af.lab _ _ _ h2).1, .inl (.inr h1)⟩
      · refine ⟨Nat.lt_of_lt_of_le (hL _ _ _ h1).1 af.wk.size, ?_⟩
        rcases h2 with ⟨h2, h3⟩ | ⟨p, a, k, h2, h3, h4⟩
        · rcases (hL _ _ _ h1).2 with h | ⟨r, h⟩
          · exact .inl (.inl h)
          · refine .inr ⟨r, ?_⟩
            rw [hrt2]
            unfold backSt
            rw [h2]
            simp [h3, h]
        · exact .inr (Option.isSome_iff_exists.1 h4)
    · rcases back_inv H J hr hL hq c af hdead hrt2 h with ⟨p, t, a, k, h0, h1, h2, h3⟩ | ⟨h1, h2⟩ | ⟨h1, h2⟩
      · rw [lookG_none c.z] at h2; cases h2
      · have := hq.p; omega
      · exact hL.f _ _ h1
end
theorem Runs.mono {P : Program} {f : FuncId} {us : Array Value} {K K' : Value→World→Prop} (h : Runs P f us w K) (hk : ∀ u w',K u w'→K' u w') : Runs P f us w K':=by
  rcases h with ⟨u,w',h1,h2⟩ | ⟨h1,h2⟩
  · exact .inl ⟨u,w',h1,hk _ _ h2⟩
  · exact .inr ⟨h1,h2.mono fun e w' ⟨u,he,h⟩=>⟨u,he,hk _ _ h⟩⟩
theorem tup_slot {vs : List V} {p : Nat→Value} (h : ∀ (c : Nat) v,vs[c]?=some v→Slot w ρ rt nowhere v (p c)) : RepV w ρ rt none (.tup vs) (.tuple (arrOf vs.length p)):=by
  have : ∀ c : Nat,∃ g : Nat→Value,∀ v,vs[c]?=some v→p c=pack v g ∧ ∀ k x,(cells v)[k]?=some x→RepV w ρ rt none x (g k):=fun c=>by
    cases hv : vs[c]? with
    | none=>exact ⟨fun _=>undef,fun v h=>by cases h⟩
    | some v =>
      obtain ⟨g,h1,h2⟩:=h c v hv
      exact ⟨g,fun v' h'=>by cases h'; exact ⟨h1,h2⟩⟩
  obtain ⟨g,hg⟩:=Classical.skolem.1 this
  exact .tup _ vs p g (fun c v hv=>(hg c v hv).1) fun c v k x hv hx=>(hg c v hv).2 k x hx
theorem n_call {P : Program} {E : Env} {G : Ground} (hG : ∀ f e, E.fn f = some e → Good P G f e) (H : RtOk w ρ rt) (J : Inj ρ) (hr : RtN rt) (hL : Lab w ρ rt noU) {Un : Nat → Prop} {id : Nat} (hi : Fresh Un rt id) (hgr : G.ok w ρ) {f : FuncId} {args : List V} {us : List Value} {v : V} (hlen : args.length = us.length)
    (hv : ∀ (a : Nat) v u, args[a]? = some v → us[a]? = some u → Slot w ρ rt nowhere v u ∧ noNew (NewOf Un rt) v) (h : callV E rt id f args = some (v, rt')) : Runs P f us.toArray w (fun u w' => Out Un w ρ rt id v rt' u w') := by
  simp only [callV, Option.bind_eq_some_iff] at h
  obtain ⟨e, he, h⟩ := h
  split at h
  · rename_i hchk
    have c := callChk hchk
    simp only [Option.bind_eq_some_iff] at h
    obtain ⟨xs, hxs, ⟨r, outs⟩, hF, h⟩ := h
    simp only at h
    split at h
    · rename_i hroom
      cases h
      have hargs := callArgs (N := NewOf Un rt) H J hr hL c hlen hv hxs
      have hinn := callOwn_inn J hL c
      refine (hG f e he w _ xs us r outs hargs hinn ⟨hgr.1, fun b hb => callOwn_none (hgr.2.1 b hb), hgr.2.2⟩ hF).mono ?_
      rintro u w' ⟨ρ', af, ⟨p, hu, hp⟩, hout⟩
      generalize hdd : (if (hasImm r || hasImms outs) = true then lentOf e.own args else []) = dead at hroom ⊢
      have hdead : ∀ o, o ∈ dead → o ∈ lentOf e.own args := fun o ho => by
        rw [← hdd] at ho
        split at ho
        · exact ho
        · cases ho
      have himm : (hasImm r || hasImms outs) = true → ∀ o, o ∈ lentOf e.own args → o ∈ dead := fun hi o ho => by
        rw [← hdd, if_pos hi]; exact ho
      generalize hrt2 : backSt rt (givenOf 0 e.own args) e.own outs dead = rt2 at hroom ⊢
      have hrt2' := hrt2.symm
      obtain ⟨b1, b2, b3⟩ := back_row H J hr hL hi.one c af hdead hrt2' hlen hxs hargs hout (fun hb => himm (by simp [hb]))
      have bk := back_keep H J hr hL hi.one c af hdead hrt2' (Un := Un) (fun _ _ _ => trivial) hlen hxs hargs hout (id := id)
      have bj := back_inj H J hr hL hi.one c af hdead hrt2'
      have hf2 : Fresh Un rt2 id := ⟨fun o ho => rt2_none H J hr hL hi.one c af hdead hrt2' (hi.f o ho), hi.u, hi.p⟩
      have hcell : ∀ (cc : Nat) (v : V), (comps r)[cc]? = some v → hasImm r = false → hasImm v = false := by
        intro cc v hv hn
        by_cases ht : isTup r = true
        · cases r <;> simp [isTup] at ht
          exact hasImms_get (by simpa [hasImm, comps] using hn) hv
        · have hcr : comps r = [r] := by cases r <;> first | rfl | exact absurd rfl ht
          rw [hcr] at hv
          cases cc with
          | zero => simp at hv; subst hv; exact hn
          | succ cc => simp at hv
      have pl := placeAll (N := NewOf Un rt) b1 bj b2 b3 (Nat.ne_of_gt hi.p) hf2.at hi.p (fun o h1 h2 => hf2.f o (hi.u o h1 (by omega))) (fun o nv h1 h2 => .inl (hi.u o h1 (by omega))) (vs := comps r) (p := p) (fun cc v hv => by
        obtain ⟨⟨g, h1, h2⟩, h3, h4⟩ := hp cc v hv
        refine ⟨⟨g, h1, fun k x hx => ?_⟩, h3⟩
        refine carry H J hr hL hi.one c af hdead hrt2' (L := (id, [(cc, k)])) (h2 k x hx) (nh_cell h3 hx) (fun him => himm ?_) (fun b l hb => back_res H J hr hL hi.one c af hdead hrt2' hb)
        cases hri : hasImm r with
        | true => simp
        | false => rw [hasImm_cell (hcell cc v hv hri) hx] at him; cases him)
      refine ⟨_, ⟨pl.rok, pl.inj, pl.rtn, bk.trans pl.keep af.wk.size, pl.lab, af.wk, ?_, fun b l h => ?_⟩, ?_, ?_⟩
      rotate_left
      · rcases back_inv H J hr hL hi.one c af hdead hrt2' (pl.f0 b l h) with ⟨p, t, a, k, h0, h1, h2, h3⟩ | ⟨h1, h2⟩ | ⟨h1, h2⟩
        · rw [lookG_none c.z] at h2; cases h2
        · have := hi.p; omega
        · exact h1
      rotate_right
      · intro o r' h
        rcases pl.nv o r' h with h1 | ⟨h1, h2⟩
        · left
          cases hg : lookG (givenOf 0 e.own args) o with
          | none => exact ⟨r', (rt2_else H J hr hL hi.one c af hdead hrt2' h1 hg).1, Nat.le_refl _⟩
          | some x =>
            obtain ⟨p, a, k⟩ := x
            obtain ⟨r1, x, y, q1, q2, q3, q4⟩ := rt2_back H J hr hL hi.one c af hdead hrt2' h1 hg
            exact ⟨r1, q1, by rw [backAt_nv q4]; exact Nat.le_succ _⟩
        · exact .inr ⟨h1, by omega⟩
      · have ll := (inst1s_spec (vs := comps r) (id := id) (c := 0)).1
        rw [hu]
        by_cases ht : isTup r = true
        · cases r <;> simp [isTup] at ht
          rename_i vs
          simp only [isTup, if_true, retup]
          have := tup_slot fun c y hy => (pl.val c y hy).1
          rw [ll] at this
          exact Slot.mk1 rfl this
        · have hcr : comps r = [r] := by cases r <;> first | rfl | exact absurd rfl ht
          have hys : ∃ y, (inst1s id 0 (comps r)).1 = [y] := by
            rw [hcr] at ll ⊢
            match hh : (inst1s id 0 [r]).1, ll with
            | [y], _ => exact ⟨y, rfl⟩
          obtain ⟨y, hy⟩ := hys
          have hret : retup r (inst1s id 0 (comps r)).1 = y := by
            rw [hy]
            cases r <;> first | rfl | exact absurd rfl ht
          simp only [ht]
          rw [hret]
          exact (pl.val 0 y (by rw [hy]; rfl)).1
      · have mono : ∀ {y : V}, (∀ Un' : Nat → Prop, (∀ o, id ≤ o → o < id + (inst1s id 0 (comps r)).2.length → ¬ Un' o) → noNew (NewOf Un' (addRoots rt2 id (inst1s id 0 (comps r)).2)) y) → noNew (NewOf (less Un id) (addRoots rt2 id (inst1s id 0 (comps r)).2)) y := fun hn =>
          hn _ fun o h1 h2 h => h.2 ⟨h1, by omega⟩
        by_cases ht : isTup r = true
        · cases r <;> simp [isTup] at ht
          rename_i vs
          simp only [retup, noNew]
          refine noNews_iff.2 fun y hy => ?_
          obtain ⟨c, hc⟩ := List.mem_iff_getElem?.1 hy
          exact mono (pl.val c y hc).2
        · have ll := (inst1s_spec (vs := comps r) (id := id) (c := 0)).1
          have hcr : comps r = [r] := by cases r <;> first | rfl | exact absurd rfl ht
          have hys : ∃ y, (inst1s id 0 (comps r)).1 = [y] := by
            rw [hcr] at ll ⊢
            match hh : (inst1s id 0 [r]).1, ll with
            | [y], _ => exact ⟨y, rfl⟩
          obtain ⟨y, hy⟩ := hys
          have hret : retup r (inst1s id 0 (comps r)).1 = y := by
            rw [hy]
            cases r <;> first | rfl | exact absurd rfl ht
          rw [hret]
          exact mono (pl.val 0 y (by rw [hy]; rfl)).2
    · cases h
  · cases h
end Go.Ln
namespace Go.Ln
open Go
variable {w w' : World} {ρ ρ' ρ'' : Own} {rt rt' rt'' : Store} {N : Nat→Nat→Prop}
def Acts (P : Program) (o : Oper) (a : Act) (w : World) (K : Value→World→Prop) : Prop :=
  (∃ u w',(execOp a.eval o).run P w=.ok (.value u) w' ∧ K u w') ∨ (∃ w',(execOp a.eval o).run P w=.ok .skip w' ∧ K undef w') ∨
  (∃ f us,(execOp a.eval o).run P w=.ok (.enter f us) w ∧ Calls P f us w fun e w'=>∃ u,e=.returned u ∧ K u w')
theorem Acts.wp {P : Program} {o : Oper} {a : Act} {K : Value→World→Prop} {next : Act→World→Prop} {Q : Exit→Act→World→Prop} (h : Acts P o a w K) (hn : ∀ u w',K u w'→next (a.put o.dst u) w') : o.wp P a w next Q:=by
  unfold Oper.wp
  rcases h with ⟨u,w',h1,h2⟩ | ⟨w',h1,h2⟩ | ⟨f,us,h1,h2⟩
  · rw [h1]; exact hn u w' h2
  · rw [h1]; exact hn undef w' h2
  · rw [h1]
    exact h2.mono fun e w' ⟨u,he,hk⟩=>by subst he; exact hn u w' hk
theorem arr_one {x : Array Operand} {st : St} {d : V} (h : evs st x.toList=some [d]) : ∃ p,x=#[p] ∧ ev st p=some d:=by
  obtain ⟨l⟩:=x
  simp only at h
  match l,h with
  | [p],h =>
    simp only [evs,Option.bind_eq_some_iff,Option.map_eq_some_iff] at h
    obtain ⟨v,hv,_,h1,h2⟩:=h
    cases h1
    cases h2
    exact ⟨p,rfl,hv⟩
  | [],h=>simp [evs] at h
  | _ :: _ :: _,h =>
    simp only [evs,Option.bind_eq_some_iff,Option.map_eq_some_iff] at h
    obtain ⟨v,hv,_,⟨_,_,_,_,h1⟩,h2⟩:=h
    subst h1
    cases h2
theorem arr_two {x : Array Operand} {st : St} {d e : V} (h : evs st x.toList=some [d,e]) : ∃ p q,x=#[p,q] ∧ ev st p=some d ∧ ev st q=some e:=by
  obtain ⟨l⟩:=x
  simp only at h
  match l,h with
  | [p,q],h =>
    simp only [evs,Option.bind_eq_some_iff,Option.map_eq_some_iff] at h
    obtain ⟨v,hv,_,⟨v2,hv2,_,h3,h1⟩,h2⟩:=h
    cases h3
    subst h1
    cases h2
    exact ⟨p,q,rfl,hv,hv2⟩
  | [],h=>simp [evs] at h
  | [_],h=>simp [evs,Option.bind_eq_some_iff] at h
  | _ :: _ :: _ :: _,h =>
    simp only [evs,Option.bind_eq_some_iff,Option.map_eq_some_iff] at h
    obtain ⟨v,hv,_,⟨v2,hv2,_,⟨_,_,_,_,h3⟩,h1⟩,h2⟩:=h
    subst h3
    subst h1
    cases h2
section
variable {P : Program} {E : Env} {G : Ground} (hG : ∀ f e,E.fn f=some e→Good P G f e) (A : Agree P E) {st : St} {a : Act} {o : Oper} (H : RtOk w ρ st.rt) (J : Inj ρ) (T : TmOk w ρ st.rt st.tm a.tmps) (hr : RtN st.rt) (hL : Lab w ρ st.rt noU) {Un : Nat→Prop} {id : Nat} (hm : TmN (NewOf Un st.rt) st.tm) (hi : Fresh Un st.rt id) (hgr : G.ok w ρ)
include hG A H J T hr hL hm hi hgr
theorem notNew {o : Nat} {r : Root} (h : st.rt o=some r) : ¬ NewOf Un st.rt o r.nv:=by
  rintro (h1 | ⟨r',h1,h2⟩)
  · rw [hi.f o h1] at h; cases h
  · rw [h] at h1; cases h1; omega
theorem n_op {v : V} {rt' : Store} (h : opV E id st o.op = some (v, rt')) : Acts P o a w (fun u w' => Out Un w ρ st.rt id v rt' u w') := by
  by_cases hp : pureOp o.op = true
  · obtain ⟨rfl, ⟨u, h1, h2⟩, h3⟩ := opPure A H J T hm hr (fun o r h => notNew hG A H J T hr hL hm hi hgr h) hp h
    refine .inl ⟨u, w, h1, ρ, ⟨H, J, hr, Keep.refl, hL, Wk.refl, fun o r h => .inl ⟨r, h, Nat.le_refl _⟩, fun _ _ h => h⟩, h2, ?_⟩
    refine noNew_mono (fun o nv h => ?_) h3
    rcases h with h | h
    · exact .inl h.1
    · exact .inr h
  · have mk : (∃ u w', (execOp a.eval o).run P w = .ok (.value u) w' ∧ Out Un w ρ st.rt id v rt' u w') → Acts P o a w (fun u w' => Out Un w ρ st.rt id v rt' u w') := fun ⟨u, w', h1, h2⟩ => .inl ⟨u, w', h1, h2⟩
    cases hop : o.op with
    | alloc t => exact mk (n_alloc A H J T hr hL hm hi hop h)
    | box t x => exact mk (n_box A H J T hr hL hm hi hop h)
    | buildSlice t n ps => exact mk (n_buildSlice A H J T hr hL hm hi hop h)
    | makeSlice t x y => exact mk (n_makeSlice A H J T hr hL hm hi hop h)
    | store t p x =>
      rw [show o.op = .store t p x from hop] at h
      have h' : opV E id st o.op = some (v, rt') := by rw [hop]; exact h
      obtain ⟨w', h1, h2⟩ := n_store A H J T hr hL hm hi hop h'
      exact .inr (.inl ⟨w', h1, h2⟩)
    | call c =>
      obtain ⟨cal, args, ts⟩ := c
      rw [hop] at h
      simp only [opV, callOp, Option.bind_eq_some_iff] at h
      obtain ⟨vs, hvs, h⟩ := h
      cases cal with
      | builtin b =>
        cases b <;> simp only [builtinV] at h <;> first | (cases h; done) | skip
        all_goals first
          | (rw [hop] at hp; simp [pureOp] at hp; done)
          | skip
        all_goals first
          | (match vs, hvs, h with
             | [d, x], hvs, h =>
               simp only [builtinV, Option.bind_eq_some_iff] at h
               obtain ⟨t, ht, t1, ht1, h⟩ := h
               split at h
               · rename_i hs1
                 obtain ⟨p, q, rfl, h1, h2⟩ := arr_two hvs
                 exact mk (n_append A H J T hr hL hm hi hop ht ht1 hs1 h1 h2 h)
               · cases h
             | [], _, h => simp [builtinV] at h
             | [_], _, h => simp [builtinV] at h
             | _ :: _ :: _ :: _, _, h => simp [builtinV] at h)
          | (match vs, hvs, h with
             | [x], hvs, h =>
               simp only [builtinV, Option.bind_eq_some_iff, Option.map_eq_some_iff, Prod.mk.injEq] at h
               obtain ⟨t, ht, r1, hr1, rfl, rfl⟩ := h
               obtain ⟨p, rfl, h1⟩ := arr_one hvs
               exact mk (n_clear A H J T hr hL hm hi hop ht h1 hr1)
             | [], _, h => simp [builtinV] at h
             | _ :: _ :: _, _, h => simp [builtinV] at h)
      | value f =>
        simp only [Option.bind_eq_some_iff] at h
        obtain ⟨fv, hf, h⟩ := h
        split at h
        · rename_i fid caps
          obtain ⟨hl, hrep⟩ := evs_rep T hvs
          have hfs := Slot.one rfl (ev_rep T hf)
          have hfn := ev_nn hm hf
          have hcaps : ∃ g : Nat → Value, a.eval f = .func (.func fid) #[] (arrOf caps.length g) ∧ ∀ (i : Nat) v, caps[i]? = some v → RepV w ρ st.rt none v (g i) := by
            generalize a.eval f = uf at hfs
            cases hfs with
            | fn _ _ _ g hg => exact ⟨g, rfl, hg⟩
          obtain ⟨g, hef, hg⟩ := hcaps
          have hus : ((args.toList.map a.eval) ++ (List.range caps.length).map g).toArray = #[] ++ args.map a.eval ++ arrOf caps.length g := by
            apply Array.ext'
            simp [arrOf]
          have hl' : vs.length = args.size := by simpa using hl
          have hn := n_call (us := (args.toList.map a.eval) ++ (List.range caps.length).map g) hG H J hr hL hi hgr (by simp [hl]) (fun i v u hv hu => by
            by_cases hlt : i < vs.length
            · rw [List.getElem?_append_left hlt] at hv
              rw [List.getElem?_append_left (by simp; omega), List.getElem?_map] at hu
              obtain ⟨x, hx, rfl⟩ := Option.map_eq_some_iff.1 hu
              exact ⟨hrep i v x hv hx, noNews_get (evs_nn hm hvs) hv⟩
            · rw [List.getElem?_append_right (by omega)] at hv
              rw [List.getElem?_append_right (by simp; omega), List.getElem?_map] at hu
              obtain ⟨j, hj, rfl⟩ := Option.map_eq_some_iff.1 hu
              have hj' : j = i - vs.length := by
                have h1 := (List.getElem?_eq_some_iff.1 hj).1
                simp at h1
                rw [List.getElem?_range (by simpa using h1)] at hj
                simp [hl] at hj ⊢
                omega
              subst hj'
              have h1 := hg _ v hv
              exact ⟨Slot.mk1 (by cases v <;> first | rfl | (cases h1)) h1, noNews_get (by simpa [noNew] using hfn) hv⟩) h
          have hrun : (execOp a.eval o).run P w = (callFunc fid ((args.toList.map a.eval) ++ (List.range caps.length).map g).toArray).run P w := by
            rw [hus]
            simp [execOp, hop, resolve, Deferred.ofValue, hef, invoke]
          rcases hn with ⟨u, w', h1, h2⟩ | ⟨h1, h2⟩
          · exact .inl ⟨u, w', by rw [hrun]; exact h1, h2⟩
          · exact .inr (.inr ⟨fid, _, by rw [hrun]; exact h1, h2⟩)
        · cases h
      | invoke x m => simp at h
    | _ => rw [hop] at hp h; first | (simp [pureOp] at hp; done) | (simp [opV] at h; done)
end
end Go.Ln
namespace Go.Ln
open Go
structure RelU (Un : Nat→Prop) (G : Ground) (m : Nat) (w0 : World) (ρ0 : Own) (w : World) (ρ : Own) (st : St) (a : Act) : Prop where
  tm : TmOk w ρ st.rt st.tm a.tmps
  rok : RtOk w ρ st.rt
  inj : Inj ρ
  rtn : RtN st.rt
  lab : Lab w ρ st.rt noU
  fresh : ∀ o,Un o→st.rt o=none
  up : ∀ o,Un o→0 < o
  tmn : TmN (NewOf Un st.rt) st.tm
  wk : Wk w0 w
  fr : ∀ b,ρ0 b=none→b < w0.heap.size→ρ b=none ∧ w.heap[b]?=w0.heap[b]?
  k0 : ∀ b l,ρ0 b=some (0,l)→ρ b=some (0,l) ∧ w.heap[b]?=w0.heap[b]?
  f0 : ∀ b l,ρ b=some (0,l)→ρ0 b=some (0,l)
  df : a.defers=[]
  gr : G.ok w ρ
  am : ∀ i b n,0 < i→ρ0 b=some (i,[])→Blk w0 b n→(st.rt i).isSome=true→ρ b=some (i,[]) ∧ Blk w b n
  le : ∀ b i l,ρ0 b=some (i,l)→i ≤ m
  nl : ∀ i,i ≤ m→¬ Un i
def past (nx : Nat) : Nat→Prop:=fun o=>nx ≤ o
abbrev Rel (G : Ground) (m : Nat) (w0 : World) (ρ0 : Own) (w : World) (ρ : Own) (st : St) (a : Act) : Prop:=RelU (past st.nx) G m w0 ρ0 w ρ st a
variable {G : Ground} {m : Nat} {w0 w : World} {ρ0 ρ : Own} {st st' : St} {a : Act}
theorem yield_eq {ops : Array Oper} (T : TmOk w ρ st.rt st.tm a.tmps) {j : Nat} {b : Option Bool} (h : yieldV ops st j=some b) : yielded ops a.tmps j=b:=by
  unfold yieldV at h
  unfold yielded
  cases hd : (ops[j]?).bind (·.dst) with
  | none=>simp [hd] at h
  | some d =>
    simp only [hd,Option.bind_some] at h ⊢
    cases ht : st.tm[d]? with
    | none=>simp [ht] at h
    | some v =>
      have hl:=(List.getElem?_eq_some_iff.1 ht).1
      obtain ⟨u,hu⟩ : ∃ u,a.tmps[d]?=some u:=⟨_,Array.getElem?_eq_getElem (by rw [← T.1]; exact hl)⟩
      have hs:=T.2 d v u ht hu
      rw [hu]
      simp only [ht] at h
      split at h
      · rename_i x hx
        cases h
        cases hx
        rw [slot_bool hs]
      · rename_i hx
        cases h
        cases hx
        have:=Slot.one rfl hs
        cases this
        rfl
      · cases h
theorem want_eq {ops : Array Oper} (T : TmOk w ρ st.rt st.tm a.tmps) {o : Oper} {b : Bool} (h : wantV ops st o=some b) : Region.wanted o (yielded ops a.tmps)=b:=by
  unfold wantV at h
  unfold Region.wanted
  split at h
  · cases h; simp_all
  · rename_i j want hg
    simp only [Option.map_eq_some_iff] at h
    obtain ⟨x,hx,rfl⟩:=h
    rw [hg]
    simp only
    rw [yield_eq T hx]
theorem newOf_less {Un : Nat→Prop} {rt rt' : Store} {id : Nat} (hi : ∀ o,id ≤ o→o < id + room→Un o) (h : ∀ o r',rt' o=some r'→(∃ r,rt o=some r ∧ r.nv ≤ r'.nv) ∨ (id ≤ o ∧ o < id + room)) : ∀ o nv,NewOf (less Un id) rt' o nv→NewOf Un rt o nv:=by
  rintro o nv (h1 | ⟨r,h1,h2⟩)
  · exact .inl h1.1
  · rcases h o r h1 with ⟨r0,h3,h4⟩ | ⟨h3,h4⟩
    · exact .inr ⟨r0,h3,by omega⟩
    · exact .inl (hi o h3 h4)
theorem putT_get {tm : List V} {d : Option Nat} {v x : V} {i : Nat} (h : (putT tm d v)[i]?=some x) : (d=some i ∧ x=v ∧ i < tm.length) ∨ (d ≠ some i ∧ tm[i]?=some x):=by
  cases d with
  | none=>exact .inr ⟨by simp,h⟩
  | some d =>
    simp only [putT] at h
    by_cases hd : d=i
    · subst hd
      have hl:=(List.getElem?_eq_some_iff.1 h).1
      rw [List.length_set] at hl
      rw [List.getElem?_set_self hl] at h
      cases h
      exact .inl ⟨rfl,rfl,hl⟩
    · rw [List.getElem?_set_ne hd] at h
      exact .inr ⟨by simpa using hd,h⟩
theorem put_get {a : Act} {d : Option Nat} {v u : Value} {i : Nat} (h : (a.put d v).tmps[i]?=some u) : (d=some i ∧ u=v) ∨ (d ≠ some i ∧ a.tmps[i]?=some u):=by
  cases d with
  | none=>exact .inr ⟨by simp,h⟩
  | some d =>
    simp only [Act.put] at h
    by_cases hd : d=i
    · subst hd
      have hl:=(Array.getElem?_eq_some_iff.1 h).1
      simp at hl
      simp [hl] at h
      exact .inl ⟨rfl,h.symm⟩
    · rw [Array.getElem?_setIfInBounds_ne hd] at h
      exact .inr ⟨by simpa using hd,h⟩
theorem put_size {a : Act} {d : Option Nat} {v : Value} : (a.put d v).tmps.size=a.tmps.size:=by cases d <;> simp [Act.put]
theorem putT_len {tm : List V} {d : Option Nat} {v : V} : (putT tm d v).length=tm.length:=by cases d <;> simp [putT]
theorem put_defers {a : Act} {d : Option Nat} {v : Value} : (a.put d v).defers=a.defers:=by cases d <;> simp [Act.put]
theorem RelU.out {Un : Nat→Prop} (R : RelU Un G m w0 ρ0 w ρ st a) {id nx : Nat} (hi : ∀ o,id ≤ o→o < id + room→Un o) {v : V} {rt' : Store} {u : Value} {w' : World} (h : Out Un w ρ st.rt id v rt' u w') {d : Option Nat} : ∃ ρ',RelU (less Un id) G m w0 ρ0 w' ρ' { tm:=putT st.tm d v,rt:=rt',nx:=nx } (a.put d u):=by
  obtain ⟨ρ',e,hv,hn⟩:=h
  have mono:=newOf_less hi e.nv
  refine ⟨ρ',⟨?_,e.rok,e.inj,e.rtn,e.lab,?_,fun o h=>R.up o h.1,?_,R.wk.trans e.wk,?_,?_,?_,?_,Ground.keep R.gr e.keep.k1 e.wk,?_,R.le,fun i h1 h2=>R.nl i h1 h2.1⟩⟩
  · refine ⟨by rw [putT_len,put_size]; exact R.tm.1,fun i x y hx hy=>?_⟩
    rcases putT_get hx with ⟨h1,rfl,_⟩ | ⟨h1,h2⟩ <;> rcases put_get hy with ⟨h3,rfl⟩ | ⟨h3,h4⟩
    · exact hv
    · exact absurd h1 h3
    · exact absurd h3 h1
    · exact (R.tm.2 i x y h2 h4).keep e.keep (R.tmn i x h2)
  · intro o ho
    cases hr : rt' o with
    | none=>exact hr
    | some r' =>
      rcases e.nv o r' hr with ⟨r,h1,_⟩ | h1
      · rw [R.fresh o ho.1] at h1; cases h1
      · exact absurd h1 ho.2
  · intro i x hx
    rcases putT_get hx with ⟨h1,rfl,_⟩ | ⟨h1,h2⟩
    · exact hn
    · exact noNew_mono mono (R.tmn i x h2)
  · intro b hb hl
    have h1:=R.fr b hb hl
    have h2:=e.keep.k1 b h1.1 (Nat.lt_of_lt_of_le hl R.wk.size)
    exact ⟨h2.1,h2.2.trans h1.2⟩
  · intro b l hb
    have h1:=R.k0 b l hb
    have h2:=e.keep.k0 b l h1.1
    exact ⟨h2.1,h2.2.trans h1.2⟩
  · exact fun b l hb=>R.f0 b l (e.f0 b l hb)
  · rw [put_defers]; exact R.df
  · intro i b n hi0 hb hn hs
    simp only at hs
    have hlt : ¬ Un i:=R.nl i (R.le b i [] hb)
    obtain ⟨r',hr'⟩:=Option.isSome_iff_exists.1 hs
    obtain ⟨r,hr,hnv⟩ : ∃ r,st.rt i=some r ∧ r.nv ≤ r'.nv:=by
      rcases e.nv i r' hr' with h | ⟨h1,h2⟩
      · exact h
      · exact absurd (hi i h1 h2) hlt
    have hl : live rt' i r.nv []:=by simp [live,look,valid,hr',rowAt]
    have:=(e.keep.k2 i r.nv [] (by
      rintro (h | ⟨r2,h,h2⟩)
      · exact hlt h
      · rw [hr] at h; cases h; omega) hl).2
    have h0:=R.am i b n hi0 hb hn (by rw [hr]; rfl)
    exact this b n h0.1 h0.2
theorem RelU.mono {Un Un' : Nat→Prop} (R : RelU Un G m w0 ρ0 w ρ st a) (h : ∀ o,Un' o→Un o) {nx : Nat} : RelU Un' G m w0 ρ0 w ρ { st with nx:=nx } a :=
  { R with
    fresh:=fun o ho=>R.fresh o (h o ho)
    up:=fun o ho=>R.up o (h o ho)
    tmn:=fun i v hv=>noNew_mono (fun o nv h1=>by
      rcases h1 with h1 | h1
      · exact .inl (h o h1)
      · exact .inr h1) (R.tmn i v hv)
    nl:=fun i h1 h2=>R.nl i h1 (h i h2) }
theorem RelU.skip {Un : Nat→Prop} (R : RelU Un G m w0 ρ0 w ρ st a) {d : Option Nat} : RelU Un G m w0 ρ0 w ρ { st with tm:=putT st.tm d .und } (a.put d undef) :=
  { R with
    tm:=⟨by rw [putT_len,put_size]; exact R.tm.1,fun i x y hx hy=>by
      rcases putT_get hx with ⟨h1,rfl,_⟩ | ⟨h1,h2⟩ <;> rcases put_get hy with ⟨h3,rfl⟩ | ⟨h3,h4⟩
      · exact Slot.mk1 rfl (.und _)
      · exact absurd h1 h3
      · exact absurd h3 h1
      · exact R.tm.2 i x y h2 h4⟩
    tmn:=fun i x hx=>by
      rcases putT_get hx with ⟨h1,rfl,_⟩ | ⟨h1,h2⟩
      · simp [noNew]
      · exact R.tmn i x h2
    df:=by rw [put_defers]; exact R.df }
theorem RelU.step {Un : Nat → Prop} {P : Program} {E : Env} (hG : ∀ f e, E.fn f = some e → Good P G f e) (A : Agree P E) (R : RelU Un G m w0 ρ0 w ρ st a) {id nx : Nat} (hp : 0 < id) (hi : ∀ o, id ≤ o → o < id + room → Un o) {ops : Array Oper} {i : Nat} {rest : List Nat} {Q : Exit → Act → World → Prop} (h : stepV E ops id st i = some st')
    (hn : ∀ w' ρ' a', RelU (less Un id) G m w0 ρ0 w' ρ' { st' with nx := nx } a' → wpOps P ops Q rest a' w') : wpOps P ops Q (i :: rest) a w := by
  unfold stepV at h
  simp only [wpOps]
  cases ho : ops[i]? with
  | none =>
    simp only [ho] at h ⊢
    cases h
    exact hn w ρ a (R.mono fun o h => h.1)
  | some o =>
    simp only [ho, Option.bind_eq_some_iff] at h ⊢
    obtain ⟨b, hb, h⟩ := h
    rw [want_eq R.tm hb]
    cases b with
    | true =>
      simp only [if_true, Option.map_eq_some_iff] at h
      obtain ⟨⟨v, rt'⟩, hv, h⟩ := h
      cases h
      simp only [if_true]
      refine .inl ((n_op hG A R.rok R.inj R.tm R.rtn R.lab R.tmn ⟨R.fresh, hi, hp⟩ R.gr hv).wp fun u w' hout => ?_)
      obtain ⟨ρ', R'⟩ := R.out hi hout (d := o.dst) (nx := nx)
      exact hn w' ρ' _ R'
    | false =>
      simp only [Bool.false_eq_true, if_false] at h ⊢
      cases h
      exact hn w ρ _ ((R.skip (d := o.dst)).mono fun o h => h.1)
theorem Rel.step {P : Program} {E : Env} (hG : ∀ f e, E.fn f = some e → Good P G f e) (A : Agree P E) (R : Rel G m w0 ρ0 w ρ st a) {ops : Array Oper} {i : Nat} {rest : List Nat} {Q : Exit → Act → World → Prop} (h : stepV E ops st.nx st i = some st')
    (hn : ∀ w' ρ' a', Rel G m w0 ρ0 w' ρ' { st' with nx := st.nx + room } a' → wpOps P ops Q rest a' w') : wpOps P ops Q (i :: rest) a w :=
  RelU.step hG A R (nx := st.nx + room) (R.up st.nx (Nat.le_refl _)) (fun o h _ => h) h fun w' ρ' a' R' => hn w' ρ' a' (by
    have := R'.mono (Un' := past (st.nx + room)) (nx := st.nx + room) fun o ho => ⟨by unfold past at *; omega, by unfold past at ho; omega⟩
    exact this)
end Go.Ln
namespace Go.Ln
open Go
variable {G : Ground} {m : Nat} {w0 w : World} {ρ0 ρ : Own} {st st' : St} {a : Act}
theorem Rel.nilq {P : Program} {E : Env} (A : Agree P E) (R : Rel G m w0 ρ0 w ρ st a) {ops : Array Oper} {i : Nat} {rest : List Nat} {Q : Exit → Act → World → Prop} {o : Oper} {op : BinOp} {t t' e : TypeId} {x y : Operand} {nl : Bool} (ho : ops[i]? = some o) (hg : wantV ops st o = some true) (hop : o.op = .binOp op t x y t') (he : op = .eql ∨ op = .neq)
    (hx : ev st x = some (.isl nl [])) (hy : ev st y = some (.isl true [])) (hd : E.desc t = some (.slice e))
    (hn : ∀ b w' ρ' a', Rel G m w0 ρ0 w' ρ' { st with tm := putT st.tm o.dst (.bool b), nx := st.nx + room } a' → wpOps P ops Q rest a' w') : wpOps P ops Q (i :: rest) a w := by
  simp only [wpOps, ho]
  rw [want_eq R.tm hg]
  simp only [if_true]
  have hu := A.desc hd
  obtain ⟨A1, l, c, h1, _⟩ := isl_shape (Slot.one rfl (ev_rep R.tm hx))
  obtain ⟨A2, l2, c2, h2, h3⟩ := isl_shape (Slot.one rfl (ev_rep R.tm hy))
  have h4 : A2 = none := by have := h3 (.inl rfl); cases A2 <;> simp at this ⊢
  have hrun : (Op.equal t (.slice A1 l c) (.slice A2 l2 c2)).run P w = .ok A1.isNone w := run_equal' fun n => slice_nil_right hu h4 rfl
  have hgd : (eqGuard op t x y (.slice A1 l c) (.slice A2 l2 c2)).run P w = .ok () w := by unfold eqGuard; split <;> simp
  have act : ∃ b, (execOp a.eval o).run P w = .ok (.value (.bool b)) w := by
    rcases he with rfl | rfl
    · exact ⟨A1.isNone, by simp [execOp, hop, h1, h2, hgd, binOp, hrun]⟩
    · exact ⟨!A1.isNone, by simp [execOp, hop, h1, h2, hgd, binOp, hrun]⟩
  obtain ⟨b, hb⟩ := act
  have hout : Out (past st.nx) w ρ st.rt st.nx (.bool b) st.rt (.bool b) w :=
    ⟨ρ, ⟨R.rok, R.inj, R.rtn, Keep.refl, R.lab, Wk.refl, fun o r h => .inl ⟨r, h, Nat.le_refl _⟩, fun _ _ h => h⟩, mk_bool _, by simp [noNew]⟩
  refine .inl (Acts.wp (K := fun u w' => u = .bool b ∧ w' = w) (.inl ⟨.bool b, w, hb, rfl, rfl⟩) fun u w' hh => ?_)
  obtain ⟨rfl, rfl⟩ := hh
  obtain ⟨ρ', R'⟩ := R.out (fun o h _ => h) hout (d := o.dst) (nx := st.nx + room)
  have := R'.mono (Un' := past (st.nx + room)) (nx := st.nx + room) fun o ho => ⟨by unfold past at *; omega, by unfold past at ho; omega⟩
  exact hn b _ ρ' _ this
def subO (ρ : Own) (rt2 : Store) : Own:=fun b=>match ρ b with
  | some (o,l)=>if o=0 ∨ (rt2 o).isSome=true then some (o,l) else none
  | none=>none
theorem subO_iff {rt2 : Store} {b : Nat} {L : Loc} : subO ρ rt2 b=some L ↔ ρ b=some L ∧ (L.1=0 ∨ (rt2 L.1).isSome=true):=by
  unfold subO
  cases h : ρ b with
  | none=>simp
  | some x =>
    obtain ⟨o,l⟩:=x
    simp only
    by_cases hc : o=0 ∨ (rt2 o).isSome=true
    · rw [if_pos hc]
      simp only [Option.some.injEq]
      constructor
      · rintro rfl; exact ⟨rfl,hc⟩
      · exact fun h=>h.1
    · rw [if_neg hc]
      simp only [reduceCtorEq,Option.some.injEq,false_iff,not_and]
      rintro rfl
      exact hc
theorem Rel.sub {tm2 : List V} {rt2 : Store} (ht : tm2.length = st.tm.length) (ht2 : ∀ (i : Nat) v, tm2[i]? = some v → st.tm[i]? = some v ∨ v = .dead) (hs : ∀ o r, rt2 o = some r → st.rt o = some r) (R : Rel G m w0 ρ0 w ρ st a) : ∃ ρ', Rel G m w0 ρ0 w ρ' { st with tm := tm2, rt := rt2 } a := by
  have hz : rt2 0 = none := by
    cases h : rt2 0 with
    | none => rfl
    | some r => have := hs 0 r h; rw [R.lab.z] at this; cases this
  have K : Keep (fun _ _ => False) w ρ st.rt w (subO ρ rt2) rt2 := by
    refine ⟨fun b hb _ => ⟨by simp [subO, hb], rfl⟩, fun o nv p _ hl => ?_, fun b l hb => ⟨subO_iff.2 ⟨hb, .inl rfl⟩, rfl⟩⟩
    unfold live look at hl
    cases hv : valid rt2 o nv p with
    | none => simp [hv] at hl
    | some r =>
      obtain ⟨h1, h2⟩ := valid_some hv
      have h3 := hs o r h1
      simp only [hv, Option.bind_some] at hl
      have : valid st.rt o nv p = some r := by
        unfold valid at hv ⊢
        rw [h3]
        rw [h1] at hv
        exact hv
      exact ⟨by simpa [live, look, this] using hl, fun b n hb hn => ⟨subO_iff.2 ⟨hb, .inr (by rw [h1]; rfl)⟩, hn⟩⟩
  have hNew : ∀ o nv, NewOf (past st.nx) rt2 o nv → NewOf (past st.nx) st.rt o nv := by
    rintro o nv (h | ⟨r, h1, h2⟩)
    · exact .inl h
    · exact .inr ⟨r, hs o r h1, h2⟩
  have kp : ∀ {v : V}, noNew (NewOf (past st.nx) st.rt) v → noNew (fun _ _ => False) v := fun h => noNew_mono (fun _ _ h => h.elim) h
  refine ⟨subO ρ rt2, ?_⟩
  exact
    { tm := ⟨by rw [ht]; exact R.tm.1, fun i v u hv hu => by
        rcases ht2 i v hv with h | rfl
        · exact (R.tm.2 i v u h hu).keep K (kp (R.tmn i v h))
        · exact Slot.mk1 rfl (.dead _ _)⟩
      rok := fun o r h => RowOk.under K (fun b l hb _ => ⟨subO_iff.2 ⟨hb, .inr (by have h' : rt2 o = some r := h; simp [h'])⟩, rfl⟩) (R.rok o r (hs o r h)) (R.rtn o r (hs o r h))
      inj := fun b b' L h h' => R.inj b b' L (subO_iff.1 h).1 (subO_iff.1 h').1
      rtn := fun o r h => R.rtn o r (hs o r h)
      lab := ⟨fun b o l h => by
        obtain ⟨h1, h2⟩ := subO_iff.1 h
        refine ⟨(R.lab b o l h1).1, ?_⟩
        rcases h2 with h2 | h2
        · exact .inl h2
        · exact .inr (Option.isSome_iff_exists.1 h2), hz, fun b l h => R.lab.f b l (subO_iff.1 h).1⟩
      fresh := fun o h => by
        cases hr : rt2 o with
        | none => exact hr
        | some r => have := hs o r hr; rw [R.fresh o h] at this; cases this
      up := R.up
      tmn := fun i v hv => by
        rcases ht2 i v hv with h | rfl
        · exact noNew_mono hNew (R.tmn i v h)
        · simp [noNew]
      wk := R.wk
      fr := fun b hb hl => ⟨by simp [subO, (R.fr b hb hl).1], (R.fr b hb hl).2⟩
      k0 := fun b l hb => ⟨subO_iff.2 ⟨(R.k0 b l hb).1, .inl rfl⟩, (R.k0 b l hb).2⟩
      f0 := fun b l hb => R.f0 b l (subO_iff.1 hb).1
      df := R.df
      gr := ⟨R.gr.1, fun b hb => by simp [subO, R.gr.2.1 b hb], R.gr.2.2⟩
      am := fun i b n h1 h2 h3 h4 => by
        obtain ⟨r, hr⟩ := Option.isSome_iff_exists.1 h4
        have := R.am i b n h1 h2 h3 (by rw [hs i r hr]; rfl)
        exact ⟨subO_iff.2 ⟨this.1, .inr h4⟩, this.2⟩
      le := R.le
      nl := R.nl }
end Go.Ln
namespace Go.Ln
open Go
def item : It→Item
  | .code c=>.code c
  | .ops ops is=>.inRegion ops is
  | .blk id=>.inBlock id
  | .lp c=>.inLoop c
  | .dops ops _ _ _=>.inRegion ops []
def Fin (P : Program) (R : Act→World→Prop) (todo : List It) (a : Act) (w : World) : Prop :=
  ∀ (b : Frame) (cs : List Frame),∃ a' w' td,R a' w' ∧ Steps P (lone (b.at a (todo.map item)) cs w) (lone { b.at a' td with mode:=.returning } cs w')
variable {P : Program} {R : Act→World→Prop} {k : List It} {a : Act} {w : World}
theorem Fin.one {t t' : List It} (h : ∀ (b : Frame) (cs : List Frame),step P (lone (b.at a (t.map item)) cs w)=.next (lone (b.at a (t'.map item)) cs w)) (hk : Fin P R t' a w) : Fin P R t a w:=fun b cs =>
  let ⟨a',w',td,r,s⟩:=hk b cs
  ⟨a',w',td,r,Steps.head (h b cs) s⟩
theorem exit_item : ∀ {k k' : List It} {id : Nat},exitIt id k=some k'→exitTo id (k.map item)=some (k'.map item)
  | [],k',id,h=>by simp [exitIt] at h
  | .blk id' :: k,k',id,h=>by
    simp only [exitIt] at h
    split at h
    · rename_i he
      cases h
      simp [item,exitTo,he]
    · rename_i he
      have:=exit_item h
      have hne : (id == id')=false:=by simp; exact fun h=>he h.symm
      have hne' : (id' == id)=false:=by simpa using he
      simp [item,exitTo,hne,hne',this]
  | .code c :: k,k',id,h=>by
    have:=exit_item (k:=k) (by simpa [exitIt] using h)
    simp [item,exitTo,this]
  | .ops o i :: k,k',id,h=>by
    have:=exit_item (k:=k) (by simpa [exitIt] using h)
    simp [item,exitTo,this]
  | .lp c :: k,k',id,h=>by
    have:=exit_item (k:=k) (by simpa [exitIt] using h)
    simp [item,exitTo,this]
  | .dops _ _ _ _ :: k,k',id,h=>by
    have:=exit_item (k:=k) (by simpa [exitIt] using h)
    simp [item,exitTo,this]
end Go.Ln
namespace Go.Ln
open Go
variable {P : Program} {R : Act→World→Prop} {k : List It} {a : Act} {w : World}
def onlyN (F : Act→World→Prop) : Exit→Act→World→Prop
  | .normal,a,w=>F a w
  | _,_,_=>False
def FinX (P : Program) (R : Act→World→Prop) : List It→Act→World→Prop
  | .ops ops is :: k,a,w=>wpOps P ops (onlyN (Fin P R k)) is a w
  | [],a,w=>R a w
  | k,a,w=>Fin P R k a w
theorem fin_ops {ops : Array Oper} {is : List Nat} (h : wpOps P ops (onlyN (Fin P R k)) is a w) : Fin P R (.ops ops is :: k) a w:=by
  intro b cs
  obtain ⟨e,a1,w1,hq,harr⟩:=wp_ops is a w h b (k.map item) cs
  cases e with
  | normal =>
    obtain ⟨a',w',td,r,s⟩:=hq b cs
    exact ⟨a',w',td,r,Steps.trans harr s⟩
  | _=>exact hq.elim
theorem finX_fin : ∀ {k : List It},FinX P R k a w→Fin P R k a w
  | .ops ops is :: k,h=>fin_ops h
  | .code _ :: _,h=>h
  | .blk _ :: _,h=>h
  | .lp _ :: _,h=>h
  | .dops _ _ _ _ :: _,h=>h
  | [],h=>fun b cs=>⟨_,_,_,h,.one step_end⟩
section
variable {E : Env} {G : Ground} (hG : ∀ f e,E.fn f=some e→Good P G f e) (A : Agree P E) {m : Nat} {w0 : World} {ρ0 : Own} {ρ : Own} {st st' : St} {Q : St→Prop}
include hG A
def PostR (G : Ground) (m : Nat) (w0 : World) (ρ0 : Own) (Q : St→Prop) (a : Act) (w : World) : Prop:=∃ ρ st,Rel G m w0 ρ0 w ρ st a ∧ Q st
theorem step_sound {k' : List It} (h : step1 E k st=some (k',st')) (R0 : Rel G m w0 ρ0 w ρ st a) (ih : ∀ w ρ a,Rel G m w0 ρ0 w ρ st' a→FinX P (PostR G m w0 ρ0 Q) k' a w) : FinX P (PostR G m w0 ρ0 Q) k a w:=by
  unfold step1 at h
  split at h
  · cases h
    exact Fin.one (fun b cs=>step_skip) (finX_fin (ih w ρ a R0))
  · rename_i id ops k
    cases h
    exact Fin.one (t':=.ops ops (List.range ops.size) :: k) (fun b cs=>step_region) (finX_fin (ih w ρ a R0))
  · rename_i x y k
    cases h
    exact Fin.one (t':=.code x :: .code y :: k) (fun b cs=>step_seq) (finX_fin (ih w ρ a R0))
  · rename_i c x y k
    simp only [Option.bind_eq_some_iff] at h
    obtain ⟨cv,hc,h⟩:=h
    have hs:=ev_rep R0.tm hc
    split at h
    · cases h
      exact Fin.one (t':=.code x :: k) (fun b cs=>step_cond (t:=true) (slot_bool hs)) (finX_fin (ih w ρ a R0))
    · cases h
      exact Fin.one (t':=.code y :: k) (fun b cs=>step_cond (t:=false) (slot_bool hs)) (finX_fin (ih w ρ a R0))
    · cases h
  · rename_i id c k
    cases h
    exact Fin.one (t':=.code c :: .blk id :: k) (fun b cs=>step_block) (finX_fin (ih w ρ a R0))
  · rename_i c k
    cases h
    exact Fin.one (t':=.code c :: .lp c :: k) (fun b cs=>step_loop) (finX_fin (ih w ρ a R0))
  · rename_i id k
    simp only [Option.map_eq_some_iff] at h
    obtain ⟨k1,hk,h⟩:=h
    cases h
    exact Fin.one (fun b cs=>step_exit (exit_item hk)) (finX_fin (ih w ρ a R0))
  · cases h
    exact fun b cs=>⟨a,w,_,ih w ρ a R0,.one step_ret⟩
  · cases h
    exact finX_fin (ih w ρ a R0)
  · rename_i ops i is k
    simp only [Option.map_eq_some_iff] at h
    obtain ⟨st1,hst,h⟩:=h
    cases h
    exact R0.step hG A hst fun w' ρ' a' R'=>ih w' ρ' a' R'
  · cases h
    exact Fin.one (fun b cs=>step_inBlock) (finX_fin (ih w ρ a R0))
  · rename_i c k
    cases h
    exact Fin.one (t':=.code c :: .lp c :: k) (fun b cs=>step_inLoop) (finX_fin (ih w ρ a R0))
  · cases h
end
end Go.Ln
namespace Go.Ln
open Go
variable {w : World} {ρ : Own} {rt rt' : Store}
theorem idx_pos {o : Nat} : ∀ {os : List Nat} {n m : Nat},idx o os n=some m→n ≤ m ∧ os[m - n]?=some o
  | [],n,m,h=>by simp [idx] at h
  | x :: xs,n,m,h=>by
    simp only [idx] at h
    split at h
    · rename_i hx
      cases h
      subst hx
      simp
    · obtain ⟨h1,h2⟩:=idx_pos h
      refine ⟨by omega,?_⟩
      rw [show m - n=(m - (n + 1)) + 1 by omega]
      simpa using h2
def renOwn (ρ : Own) (os : List Nat) : Own:=fun b =>
  match ρ b with
  | none=>none
  | some (o,l)=>if o=0 then some (0,l) else (idx o os 1).map fun n=>(n,l)
theorem renOwn_none {os b} (h : ρ b=none) : renOwn ρ os b=none:=by simp [renOwn,h]
theorem renOwn_far {os b l} (h : ρ b=some (0,l)) : renOwn ρ os b=some (0,l):=by simp [renOwn,h]
theorem renOwn_some {os b o l n} (h : ρ b=some (o,l)) (h0 : o ≠ 0) (hn : idx o os 1=some n) : renOwn ρ os b=some (n,l):=by simp [renOwn,h,h0,hn]
theorem renOwn_inv {os b n l} (h : renOwn ρ os b=some (n,l)) : (n=0 ∧ ρ b=some (0,l)) ∨ ∃ o,ρ b=some (o,l) ∧ o ≠ 0 ∧ idx o os 1=some n:=by
  unfold renOwn at h
  split at h
  · cases h
  · rename_i o l' hb
    split at h
    · rename_i h0
      cases h
      subst h0
      exact .inl ⟨rfl,hb⟩
    · rename_i h0
      simp only [Option.map_eq_some_iff] at h
      obtain ⟨m,hm,h⟩:=h
      cases h
      exact .inr ⟨o,hb,h0,hm⟩
theorem nub_nodup : ∀ {xs acc : List Nat},acc.Nodup→(nub acc xs).Nodup
  | [],acc,h=>h
  | x :: xs,acc,h=>by
    simp only [nub]
    split
    · exact nub_nodup h
    · rename_i hx
      refine nub_nodup (List.nodup_append.2 ⟨h,by simp,?_⟩)
      intro a ha b hb hab
      simp at hb
      subst hb
      subst hab
      exact hx (by simpa using ha)
theorem idx_get : ∀ {os : List Nat} {n m o : Nat},os.Nodup→os[m]?=some o→idx o os n=some (n + m)
  | [],n,m,o,hd,h=>by simp at h
  | x :: xs,n,m,o,hd,h=>by
    simp only [idx]
    cases m with
    | zero=>simp at h; subst h; simp
    | succ m =>
      have hd':=List.nodup_cons.1 hd
      have hne : x ≠ o:=by
        rintro rfl
        exact hd'.1 (List.mem_of_getElem? (by simpa using h))
      rw [if_neg hne,idx_get hd'.2 (by simpa using h)]
      congr 1
      omega
def renRt (rt : Store) (os : List Nat) : Store:=getL (os.map fun o=>(rt o).map fun r=>⟨0,r.s,r.es⟩)
theorem renRt_some {os : List Nat} {o n : Nat} (hn : idx o os 1=some n) : renRt rt os n=(rt o).map fun r=>⟨0,r.s,r.es⟩:=by
  obtain ⟨h1,h2⟩:=idx_pos hn
  unfold renRt getL
  rw [if_neg (by omega),List.getElem?_map,h2]
  simp
theorem renRt_inv {os : List Nat} (hd : os.Nodup) {n : Nat} {r' : Root} (h : renRt rt os n=some r') : ∃ o r,idx o os 1=some n ∧ rt o=some r ∧ r'=⟨0,r.s,r.es⟩:=by
  unfold renRt getL at h
  split at h
  · cases h
  · rename_i h0
    rw [List.getElem?_map] at h
    cases ho : os[n - 1]? with
    | none=>simp [ho] at h
    | some o =>
      simp only [ho,Option.map_some,Option.bind_some,Option.map_eq_some_iff] at h
      obtain ⟨r,hr,rfl⟩:=h
      exact ⟨o,r,by rw [idx_get hd ho]; congr 1; omega,hr,rfl⟩
end Go.Ln
namespace Go.Ln
open Go
variable {w : World} {ρ : Own} {rt : Store}
theorem ren_one {os : List Nat} {v : V} (h : isAggV v=false) : isAggV (ren rt os v)=false:=by
  cases v <;> first | (simp [isAggV] at h; done) | skip
  all_goals simp only [ren] <;> first | rfl | (split <;> rfl)
theorem rens_map {os : List Nat} : ∀ {vs : List V},rens rt os vs=vs.map (ren rt os)
  | []=>rfl
  | v :: vs=>by simp [rens,rens_map]
theorem cells_ren {os : List Nat} {v : V} : cells (ren rt os v)=(cells v).map (ren rt os):=by
  by_cases ha : isAggV v=true
  · cases v <;> simp [isAggV] at ha
    simp [ren,cells,rens_map]
  · have ha' : isAggV v=false:=by simpa using ha
    rw [cells_one ha',cells_one (ren_one ha')]
    rfl
theorem agg_ren {os : List Nat} {v : V} : isAggV (ren rt os v)=isAggV v:=by
  by_cases ha : isAggV v=true
  · cases v <;> simp [isAggV] at ha
    simp [ren,isAggV]
  · have ha' : isAggV v=false:=by simpa using ha
    rw [ren_one ha',ha']
theorem ren_live {os : List Nat} (hd : os.Nodup) {o n nv : Nat} {p : List (Nat × Nat)} {r : Root} (hv : valid rt o nv p=some r) (hn : idx o os 1=some n) (h : live (renRt rt os) n 0 p) : live rt o nv p:=by
  unfold live look at h ⊢
  rw [hv]
  have h1:=renRt_some (rt:=rt) hn
  rw [(valid_some hv).1] at h1
  simp only [valid,h1,Option.map_some] at h
  simpa using h
section
variable (hL : Lab w ρ rt noU) {os : List Nat} (hd : os.Nodup)
include hL hd
theorem ren_keep0 : Keep0 (fun _ _=>True) w ρ rt w (renOwn ρ os) (renRt rt os):=⟨fun b hb _=>⟨renOwn_none hb,rfl⟩,fun _ _ _ h _=>absurd trivial h⟩
theorem ren_rep {L : Option Loc} {v : V} {u : Value} (h : RepV w ρ rt L v u) : L=none→noNew (fun o _=>rt o=none ∧ False) v→RepV w (renOwn ρ os) (renRt rt os) none (ren rt os v) u:=by
  have K:=ren_keep0 hL hd
  have far : ∀ {v : V} {u : Value},RepV w ρ rt none v u→nh v→RepV w (renOwn ρ os) (renRt rt os) none v u:=fun h hn=>by
    have:=h.mono0 K id (fun _=>False) (fun _ _ _ _=>rfl) (fun _ _ _ h=>h) (fun _ _ h=>h.elim) (by simp) (nh_noNew hn)
    simpa using this
  induction h with
  | und L=>exact fun _ _=>by simpa [ren] using RepV.und none
  | dead L u=>exact fun _ _=>by simpa [ren] using RepV.dead none u
  | bool L b=>exact fun _ _=>by simpa [ren] using RepV.bool none b
  | int L k n=>exact fun _ _=>by simpa [ren] using RepV.int none k n
  | str L s=>exact fun _ _=>by simpa [ren] using RepV.str none s
  | nilp L=>exact fun _ _=>by simpa [ren] using RepV.nilp none
  | nilfn L=>exact fun _ _=>by simpa [ren] using RepV.nilfn none
  | nilif L=>exact fun _ _=>by simpa [ren] using RepV.nilif none
  | fn L f caps g h ih =>
    intro _ hn
    simp only [ren]
    have : caps.length=(rens rt os caps).length:=by simp [rens_map]
    rw [this]
    refine .fn _ _ _ g fun i v hv=>?_
    rw [rens_map,List.getElem?_map] at hv
    obtain ⟨v0,hv0,rfl⟩:=Option.map_eq_some_iff.1 hv
    exact ih i v0 hv0 rfl (noNews_get (by simpa [noNew] using hn) hv0)
  | iface L t v g h ih =>
    exact fun hL hn=>by
      simp only [ren]
      exact far (.iface none t v g h) (by simpa [noNew,nh] using hn)
  | tup L vs p g hp h ih =>
    intro _ hn
    simp only [ren]
    have : vs.length=(rens rt os vs).length:=by simp [rens_map]
    rw [this]
    refine .tup _ _ p g (fun c v hv=>?_) fun c v k x hv hx=>?_
    · rw [rens_map,List.getElem?_map] at hv
      obtain ⟨v0,hv0,rfl⟩:=Option.map_eq_some_iff.1 hv
      rw [hp c v0 hv0]
      unfold pack
      rw [agg_ren,cells_ren,List.length_map]
    · rw [rens_map,List.getElem?_map] at hv
      obtain ⟨v0,hv0,rfl⟩:=Option.map_eq_some_iff.1 hv
      rw [cells_ren,List.getElem?_map] at hx
      obtain ⟨x0,hx0,rfl⟩:=Option.map_eq_some_iff.1 hx
      exact ih c v0 k x0 hv0 hx0 rfl (noNew_cell (noNews_get (by simpa [noNew] using hn) hv0) hx0)
  | iptr L e k b off g hb hρ hc h ih =>
    exact fun _ hn=>by
      simp only [ren]
      exact far (.iptr none e k b off g hb hρ hc h) (by simpa [noNew,nh] using hn)
  | isl0 L nl A c hn=>exact fun _ _=>by simpa [ren] using RepV.isl0 none nl A c hn
  | isl L es b off c s g hl h0 hρ hb hs hc h ih =>
    exact fun _ hn=>by
      simp only [ren]
      exact far (.isl none es b off c s g hl h0 hρ hb hs hc h) (by simpa [noNew,nh] using hn)
  | usl0 l s A=>exact fun h=>by cases h
  | usl l s es b A c arr T g hρ hb hl hA hcap hs hc h ih=>exact fun h=>by cases h
  | uptr l e b arr T g hρ hb hc h ih=>exact fun h=>by cases h
  | hp L o nv p s i k u h h1 =>
    intro _ _
    simp only [ren]
    split
    · rename_i r n hv hn
      refine .hp _ _ _ _ _ _ _ _ (fun hl=>?_) h1
      obtain ⟨b,m,hb,hbl,hu⟩:=h (ren_live hd hv hn hl)
      have ho : o ≠ 0:=by
        rintro rfl
        have h2:=(valid_some hv).1
        rw [hL.z] at h2
        cases h2
      exact ⟨b,m,renOwn_some hb ho hn,hbl,hu⟩
    · exact .dead _ _
  | hs L o nv p s off len u h h1 =>
    intro _ _
    simp only [ren]
    split
    · rename_i r n hv hn
      refine .hs _ _ _ _ _ _ _ _ (fun hl=>?_) h1
      obtain ⟨c,A,hu,hlc,hcc⟩:=h (ren_live hd hv hn hl)
      have ho : o ≠ 0:=by
        rintro rfl
        have h2:=(valid_some hv).1
        rw [hL.z] at h2
        cases h2
      exact ⟨c,A,hu,hlc,fun h0=>by
        obtain ⟨b,m,hb,hbl,h3,h4⟩:=hcc h0
        exact ⟨b,m,renOwn_some hb ho hn,hbl,h3,h4⟩⟩
    · exact .dead _ _
end
end Go.Ln
namespace Go.Ln
open Go
variable {w : World} {ρ : Own} {rt : Store}
theorem keepT_get {L : List Nat} : ∀ {tm : List V} {n i : Nat} {v : V},(keepT L n tm)[i]?=some v→∃ v0,tm[i]?=some v0 ∧ (v=v0 ∨ v=.dead)
  | [],n,i,v,h=>by simp [keepT] at h
  | x :: tm,n,0,v,h=>by
    simp only [keepT,List.getElem?_cons_zero,Option.some.injEq] at h
    refine ⟨x,by simp,?_⟩
    split at h
    · exact .inl h.symm
    · exact .inr h.symm
  | x :: tm,n,i + 1,v,h=>by
    simp only [keepT,List.getElem?_cons_succ] at h
    simpa using keepT_get h
theorem keepT_len {L : List Nat} : ∀ {tm : List V} {n : Nat},(keepT L n tm).length=tm.length
  | [],n=>rfl
  | x :: tm,n=>by simp [keepT,keepT_len]
theorem renOwn_inj {os : List Nat} (hd : os.Nodup) (J : Inj ρ) : Inj (renOwn ρ os):=by
  rintro b b' ⟨n,l⟩ h h'
  rcases renOwn_inv h with ⟨h0,h1⟩ | ⟨o,h1,h2,h3⟩ <;> rcases renOwn_inv h' with ⟨h0',h1'⟩ | ⟨o',h1',h2',h3'⟩
  · exact J b b' _ h1 h1'
  · subst h0; have:=(idx_pos h3').1; omega
  · subst h0'; have:=(idx_pos h3).1; omega
  · have e : o=o':=by
      have a:=(idx_pos h3).2
      have a':=(idx_pos h3').2
      rw [a] at a'
      simpa using a'
    subst e
    exact J b b' _ h1 h1'
theorem ren_lab {os : List Nat} (hd : os.Nodup) (hL : Lab w ρ rt noU) : Lab w (renOwn ρ os) (renRt rt os) noU:=by
  refine ⟨fun b n l h=>?_,by simp [renRt,getL],fun b l h=>?_⟩
  · rcases renOwn_inv h with ⟨h0,h1⟩ | ⟨o,h1,h2,h3⟩
    · exact ⟨(hL.l b 0 l h1).1,.inl h0⟩
    · obtain ⟨h4,h5⟩:=hL.l b o l h1
      rcases h5 with h5 | ⟨r,h5⟩
      · exact absurd h5 h2
      · exact ⟨h4,.inr ⟨_,by rw [renRt_some h3,h5]; rfl⟩⟩
  · rcases renOwn_inv h with ⟨h0,h1⟩ | ⟨o,h1,h2,h3⟩
    · exact hL.f b l h1
    · have:=(idx_pos h3).1; omega
theorem ren_rok {os : List Nat} (hd : os.Nodup) (hL : Lab w ρ rt noU) (H : RtOk w ρ rt) (hr : RtN rt) : RtOk w (renOwn ρ os) (renRt rt os):=by
  intro n r' h
  obtain ⟨o,r,hn,ho,rfl⟩:=renRt_inv hd h
  have ho0 : o ≠ 0:=by rintro rfl; rw [hL.z] at ho; cases ho
  rcases H o r ho with h0 | ⟨b,arr,T,g,h1,h2,h3,h4,h5⟩
  · exact .inl h0
  · refine .inr ⟨b,arr,T,g,renOwn_some h1 ho0 hn,h2,h3,h4,fun i e k x he hx=>?_⟩
    have K : Keep0 (fun _ _=>True) w ρ rt w (renOwn ρ os) (renRt rt os):=ren_keep0 hL hd
    have:=(h5 i e k x he hx).mono0 K (fun l=>(n,l.2)) (fun l=>l.1=o) (fun l i k _=>rfl) (fun l i k h=>h)
      (fun b l hl hb=>⟨by
        obtain ⟨lo,ll⟩:=l
        simp only at hl
        subst hl
        exact renOwn_some hb ho0 hn,rfl⟩) (fun l hl=>by cases hl; rfl) (nh_noNew (nh_cell (nhs_get (hr o r ho) he) hx))
    simpa [Loc.at] using this
theorem renRt_high {os : List Nat} {n : Nat} (h : os.length + 1 ≤ n) : renRt rt os n=none:=by
  unfold renRt getL
  rw [if_neg (by omega),List.getElem?_eq_none (by simp; omega)]
  rfl
theorem renRt_nv {os : List Nat} (hd : os.Nodup) {n : Nat} {r : Root} (h : renRt rt os n=some r) : r.nv=0:=by
  obtain ⟨o,r0,_,_,rfl⟩:=renRt_inv hd h
  rfl
mutual
theorem ren_nn {os : List Nat} (hd : os.Nodup) {N : Nat→Nat→Prop} : ∀ {v : V},noNew N v→noNew (NewOf (past (os.length + 1)) (renRt rt os)) (ren rt os v)
  | .und,_=>by simp [ren,noNew]
  | .dead,_=>by simp [ren,noNew]
  | .bool _,_=>by simp [ren,noNew]
  | .int _ _,_=>by simp [ren,noNew]
  | .str _,_=>by simp [ren,noNew]
  | .nilp,_=>by simp [ren,noNew]
  | .nilfn,_=>by simp [ren,noNew]
  | .nilif,_=>by simp [ren,noNew]
  | .fn _ cs,h=>by simp only [ren,noNew] at h ⊢; exact rens_nn hd h
  | .agg cs,h=>by simp only [ren,noNew] at h ⊢; exact rens_nn hd h
  | .tup cs,h=>by simp only [ren,noNew] at h ⊢; exact rens_nn hd h
  | .iface _ v,h=>by simpa [ren,noNew] using h
  | .iptr e _,h=>by simpa [ren,noNew] using h
  | .isl _ es,h=>by simpa [ren,noNew] using h
  | .uptr e,h=>by simpa [ren,noNew] using h
  | .usl _ es,h=>by simpa [ren,noNew] using h
  | .hp o nv p s i k,h=>by
    simp only [ren]
    split
    · rename_i r n hv hn
      simp only [noNew]
      rintro (h1 | ⟨r',h1,h2⟩)
      · unfold past at h1
        obtain ⟨h3,h4⟩:=idx_pos hn
        have:=(List.getElem?_eq_some_iff.1 h4).1
        omega
      · omega
    · simp [noNew]
  | .hs o nv p s i k,h=>by
    simp only [ren]
    split
    · rename_i r n hv hn
      simp only [noNew]
      rintro (h1 | ⟨r',h1,h2⟩)
      · unfold past at h1
        obtain ⟨h3,h4⟩:=idx_pos hn
        have:=(List.getElem?_eq_some_iff.1 h4).1
        omega
      · have:=renRt_nv hd h1
        omega
    · simp [noNew]
theorem rens_nn {os : List Nat} (hd : os.Nodup) {N : Nat→Nat→Prop} : ∀ {vs : List V},noNews N vs→noNews (NewOf (past (os.length + 1)) (renRt rt os)) (rens rt os vs)
  | [],_=>by simp [rens,noNews]
  | v :: vs,h=>by simp only [rens,noNews] at h ⊢; exact ⟨ren_nn hd h.1,rens_nn hd h.2⟩
end
end Go.Ln
namespace Go.Ln
open Go
variable {G : Ground} {m : Nat} {w0 w : World} {ρ0 ρ : Own} {st : St} {a : Act}
theorem fixed_nodup (m : Nat) : (fixed m).Nodup:=by
  unfold fixed
  exact List.nodup_range'
theorem nub_pre : ∀ {xs acc : List Nat},∃ r,nub acc xs=acc ++ r
  | [],acc=>⟨[],by simp [nub]⟩
  | x :: xs,acc=>by
    simp only [nub]
    split
    · exact nub_pre
    · obtain ⟨r,h⟩:=@nub_pre xs (acc ++ [x])
      exact ⟨x :: r,by rw [h]; simp⟩
theorem nub_fixed {m i : Nat} {xs : List Nat} (h1 : 0 < i) (h2 : i ≤ m) : idx i (nub (fixed m) xs) 1=some i:=by
  have hd : (nub (fixed m) xs).Nodup:=nub_nodup (fixed_nodup m)
  obtain ⟨r,h⟩:=@nub_pre xs (fixed m)
  have hg : (nub (fixed m) xs)[i - 1]?=some i:=by
    rw [h,List.getElem?_append_left (by simp [fixed]; omega)]
    simp [fixed,List.getElem?_range',show i - 1 < m by omega]
    omega
  rw [idx_get hd hg]
  congr 1; omega
theorem nub_len {m : Nat} {xs : List Nat} : m ≤ (nub (fixed m) xs).length:=by
  obtain ⟨r,h⟩:=@nub_pre xs (fixed m)
  rw [h]; simp [fixed]
theorem Rel.forget (R : Rel G m w0 ρ0 w ρ st a) (L : List Nat) : ∃ ρ',Rel G m w0 ρ0 w ρ' (normSt m L st) a:=by
  have hd : (nub (fixed m) (idss (keepT L 0 st.tm))).Nodup:=nub_nodup (fixed_nodup m)
  have hfx : ∀ i,0 < i→i ≤ m→idx i (nub (fixed m) (idss (keepT L 0 st.tm))) 1=some i:=fun i h1 h2=>nub_fixed h1 h2
  have hlen : m ≤ (nub (fixed m) (idss (keepT L 0 st.tm))).length:=nub_len
  generalize hos : nub (fixed m) (idss (keepT L 0 st.tm))=os at hd hfx hlen
  have e1 : (normSt m L st).tm=rens st.rt os (keepT L 0 st.tm):=by simp [normSt,hos]
  have e2 : (normSt m L st).rt=renRt st.rt os:=by simp [normSt,hos,renRt]
  have e3 : (normSt m L st).nx=os.length + 1:=by simp [normSt,hos]
  have nn : ∀ (i : Nat) v,(keepT L 0 st.tm)[i]?=some v→noNew (NewOf (past st.nx) st.rt) v:=fun i v hv=>by
    obtain ⟨v0,h1,h2 | h2⟩:=keepT_get hv
    · subst h2; exact R.tmn i v h1
    · subst h2; simp [noNew]
  refine ⟨renOwn ρ os,⟨?_,?_,renOwn_inj hd R.inj,?_,?_,?_,?_,?_,R.wk,?_,?_,?_,R.df,?_,?_,R.le,fun i h1 h2=>by rw [e3] at h2; unfold past at h2; omega⟩⟩
  · rw [e1,e2]
    refine ⟨by rw [rens_map,List.length_map,keepT_len]; exact R.tm.1,fun i v u hv hu=>?_⟩
    rw [rens_map,List.getElem?_map] at hv
    obtain ⟨v1,hv1,rfl⟩:=Option.map_eq_some_iff.1 hv
    obtain ⟨v0,h0,h2 | h2⟩:=keepT_get hv1
    · subst h2
      obtain ⟨g,hg,hs⟩:=R.tm.2 i v1 u h0 hu
      refine ⟨g,?_,fun k x hx=>?_⟩
      · rw [hg]; unfold pack; rw [agg_ren,cells_ren,List.length_map]
      · rw [cells_ren,List.getElem?_map] at hx
        obtain ⟨x0,hx0,rfl⟩:=Option.map_eq_some_iff.1 hx
        exact ren_rep R.lab hd (hs k x0 hx0) rfl (noNew_mono (by rintro o nv ⟨_,h⟩; exact h.elim) (noNew_cell (R.tmn i v1 h0) hx0))
    · subst h2
      simp only [ren]
      exact Slot.mk1 rfl (.dead _ _)
  · rw [e2]; exact ren_rok hd R.lab R.rok R.rtn
  · rw [e2]
    intro n r h
    obtain ⟨o,r0,_,h1,rfl⟩:=renRt_inv hd h
    exact R.rtn o r0 h1
  · rw [e2]; exact ren_lab hd R.lab
  · rw [e2,e3]; exact fun o ho=>renRt_high ho
  · rw [e3]; intro o ho; unfold past at ho; omega
  · rw [e1,e2,e3]
    intro i v hv
    rw [rens_map,List.getElem?_map] at hv
    obtain ⟨v1,hv1,rfl⟩:=Option.map_eq_some_iff.1 hv
    exact ren_nn hd (nn i v1 hv1)
  · exact fun b h1 h2=>⟨renOwn_none (R.fr b h1 h2).1,(R.fr b h1 h2).2⟩
  · exact fun b l h=>⟨renOwn_far (R.k0 b l h).1,(R.k0 b l h).2⟩
  · intro b l h
    rcases renOwn_inv h with ⟨_,h1⟩ | ⟨o,h1,h2,h3⟩
    · exact R.f0 b l h1
    · have:=(idx_pos h3).1; omega
  · exact ⟨R.gr.1,fun b hb=>renOwn_none (R.gr.2.1 b hb),R.gr.2.2⟩
  · intro i b n hi hb hn hs
    have hle:=R.le b i [] hb
    rw [e2,renRt_some (hfx i hi hle)] at hs
    have h0:=R.am i b n hi hb hn (by simpa using hs)
    exact ⟨renOwn_some h0.1 (by omega) (hfx i hi hle),h0.2⟩
end Go.Ln
namespace Go.Ln
open Go
variable {w w' : World} {ρ ρ' : Own} {rt rt' : Store}
theorem result1_run {P : Program} {E : Env} (A : Agree P E) (H : RtOk w ρ rt) (J : Inj ρ) {st : St} (hst : st.rt = rt) {tmps : Array Value} (T : TmOk w ρ rt st.tm tmps) {r : ResultVar} {v : V} (h : result1 E st r = some v) :
    ∃ u, ((match r with
      | .tmp t => pure (tmps.getD t undef)
      | .cell a t => do loadVar t (← asAddr (tmps.getD a undef))) : Sem Value).run P w = .ok u w ∧ Slot w ρ rt nowhere v u := by
  cases r with
  | tmp t =>
    simp only [result1] at h
    have hl := (List.getElem?_eq_some_iff.1 h).1
    obtain ⟨u, hu⟩ : ∃ u, tmps[t]? = some u := ⟨_, Array.getElem?_eq_getElem (by rw [← T.1]; exact hl)⟩
    exact ⟨u, by simp [Array.getD_eq_getD_getElem?, hu], T.2 t v u h hu⟩
  | cell a t =>
    simp only [result1, Option.bind_eq_some_iff] at h
    obtain ⟨ti, ht, p, hp, cs, hc, h⟩ := h
    split at h
    · rename_i hsz
      have hl := (List.getElem?_eq_some_iff.1 hp).1
      obtain ⟨u0, hu0⟩ : ∃ u, tmps[a]? = some u := ⟨_, Array.getElem?_eq_getElem (by rw [← T.1]; exact hl)⟩
      have hpv : isAggV p = false := by cases p <;> first | rfl | simp [from_] at hc
      rw [hst] at hc
      obtain ⟨b, off, hu, hr⟩ := from_rep H J hc (Slot.one hpv (T.2 a p u0 hp hu0)) (by omega)
      have hx : ∀ j, j < ti.size → ∃ y, w.cell? ⟨b, off + j, none⟩ = some y ∧ ∀ x, cs[j]? = some x → RepV w ρ rt none x y := by
        intro j hj
        obtain ⟨y, h1, h2⟩ := hr j (cs[j]'(by omega)) (by simp)
        exact ⟨y, h1, fun x hx => by rw [List.getElem?_eq_getElem (by omega)] at hx; cases hx; exact h2⟩
      have hg : ∃ g : Nat → Value, ∀ j, j < ti.size → w.cell? ⟨b, off + j, none⟩ = some (g j) ∧ ∀ x, cs[j]? = some x → RepV w ρ rt none x (g j) := by
        refine ⟨fun j => if hj : j < ti.size then (hx j hj).choose else undef, fun j hj => ?_⟩
        simp only [hj, dif_pos]
        exact (hx j hj).choose_spec
      obtain ⟨g, hg⟩ := hg
      have h1 : isAggD ti.desc = false → ti.size = 1 := fun ha => by
        unfold mkVal at h
        rw [if_neg (by simp [ha])] at h
        split at h
        · rename_i v' hv'
          have := congrArg List.length hv'
          simp [Nat.min_eq_left hsz.2] at this
          exact this
        · cases h
      refine ⟨_, ?_, mkVal_slot (g := g) h (fun k x hk => ?_)⟩
      · simp only [Array.getD_eq_getD_getElem?, hu0, Option.getD_some, hu, asAddr, Sem.run_bind, Sem.run_pure, Result.andThen]
        rw [run_loadVar A ht (fun j hj => (hg j hj).1) h1]
        simp [List.length_take, Nat.min_eq_left hsz.2]
      · rw [List.getElem?_take] at hk
        split at hk
        · rename_i hk'
          exact (hg k hk').2 x hk
        · cases hk
    · cases h
theorem resultsV_get {E : Env} {st : St} : ∀ {rs : List ResultVar} {vs : List V},resultsV E st rs=some vs→vs.length=rs.length ∧ ∀ (i : Nat) r v,rs[i]?=some r→vs[i]?=some v→result1 E st r=some v
  | [],vs,h=>by simp [resultsV] at h; subst h; simp
  | r :: rs,vs,h=>by
    simp only [resultsV,Option.bind_eq_some_iff,Option.map_eq_some_iff] at h
    obtain ⟨v,hv,ys,hys,rfl⟩:=h
    have ih:=resultsV_get hys
    refine ⟨by simp [ih.1],fun i r' v' h1 h2=>?_⟩
    cases i with
    | zero=>simp at h1 h2; subst h1 h2; exact hv
    | succ i=>exact ih.2 i r' v' (by simpa using h1) (by simpa using h2)
theorem results_run {P : Program} {E : Env} (A : Agree P E) (H : RtOk w ρ rt) (J : Inj ρ) {st : St} (hst : st.rt = rt) {tmps : Array Value} (T : TmOk w ρ rt st.tm tmps) {fn : Func} {vs : List V} (h : resultsV E st fn.results.toList = some vs) :
    ∃ p : Nat → Value, (results fn tmps).run P w = .ok (if vs.length = 1 then p 0 else .tuple (arrOf vs.length p)) w ∧ ∀ (i : Nat) v, vs[i]? = some v → Slot w ρ rt nowhere v (p i) := by
  obtain ⟨hl, hg⟩ := resultsV_get h
  have hx : ∀ i, i < vs.length → ∃ u, ∀ r v, fn.results.toList[i]? = some r → vs[i]? = some v → ((match r with
      | .tmp t => pure (tmps.getD t undef)
      | .cell a t => do loadVar t (← asAddr (tmps.getD a undef))) : Sem Value).run P w = .ok u w ∧ Slot w ρ rt nowhere v u := by
    intro i hi
    obtain ⟨u, h1, h2⟩ := result1_run A H J hst T (hg i _ _ (List.getElem?_eq_getElem (by omega)) (List.getElem?_eq_getElem hi))
    refine ⟨u, fun r v hr hv => ?_⟩
    rw [List.getElem?_eq_getElem (by omega)] at hr
    rw [List.getElem?_eq_getElem hi] at hv
    cases hr
    cases hv
    exact ⟨h1, h2⟩
  have hp : ∃ p : Nat → Value, ∀ i, i < vs.length → ∀ r v, fn.results.toList[i]? = some r → vs[i]? = some v → ((match r with
      | .tmp t => pure (tmps.getD t undef)
      | .cell a t => do loadVar t (← asAddr (tmps.getD a undef))) : Sem Value).run P w = .ok (p i) w ∧ Slot w ρ rt nowhere v (p i) := by
    refine ⟨fun i => if hi : i < vs.length then (hx i hi).choose else undef, fun i hi => ?_⟩
    simp only [hi, dif_pos]
    exact (hx i hi).choose_spec
  obtain ⟨p, hp⟩ := hp
  refine ⟨p, ?_, fun i v hv => ?_⟩
  · have hm := mapM_run (P := P) w (l := fn.results.toList) (r := (List.range vs.length).map p) (f := fun r => ((match r with
      | .tmp t => pure (tmps.getD t undef)
      | .cell a t => do loadVar t (← asAddr (tmps.getD a undef))) : Sem Value)) (by simp [hl]) (fun i r u h1 h2 => by
        rw [List.getElem?_map] at h2
        obtain ⟨j, hj, rfl⟩ := Option.map_eq_some_iff.1 h2
        have hi : i < vs.length := by
          have := (List.getElem?_eq_some_iff.1 hj).1
          simpa using this
        have : j = i := by simpa [List.getElem?_range hi] using hj.symm
        subst this
        exact (hp j hi r _ h1 (List.getElem?_eq_getElem hi)).1)
    unfold results
    rw [Array.mapM_eq_mapM_toList]
    simp only [Sem.run_bind, map_eq_pure_bind, Sem.run_pure, Result.andThen]
    erw [hm]
    simp only [Result.andThen, List.size_toArray, List.length_map, List.length_range]
    by_cases h1 : vs.length = 1
    · simp [h1]
    · simp [h1, arrOf]
  · have hi := (List.getElem?_eq_some_iff.1 hv).1
    exact (hp i hi _ v (List.getElem?_eq_getElem (by omega)) hv).2
end Go.Ln
namespace Go.Ln
open Go
variable {w w' : World} {ρ ρ' : Own} {rt rt' : Store}
theorem outs_at {rt : Store} : ∀ {own : List Bool} {vs : List V} {a : Nat} {x : V},outAt own (outs rt own vs) a=some x→∃ v,vs[a]?=some v ∧ x=out1 rt v
  | [],vs,a,x,h=>by cases vs <;> simp [outs,outAt] at h
  | true :: bs,[],a,x,h=>by simp [outs,outAt] at h
  | false :: bs,[],0,x,h=>by simp [outAt] at h
  | false :: bs,[],a + 1,x,h=>by
    simp only [outs,outAt] at h
    have : outs rt bs []=[]:=by
      cases bs with
      | nil=>rfl
      | cons b _=>cases b <;> rfl
    rw [← this] at h
    obtain ⟨v,hv,_⟩:=outs_at h
    simp at hv
  | true :: bs,v :: vs,0,x,h=>by simp [outs,outAt] at h; exact ⟨v,by simp,h.symm⟩
  | true :: bs,v :: vs,a + 1,x,h=>by
    simp only [outs,outAt] at h
    obtain ⟨y,hy,hx⟩:=outs_at h
    exact ⟨y,by simpa using hy,hx⟩
  | false :: bs,v :: vs,0,x,h=>by simp [outAt] at h
  | false :: bs,v :: vs,a + 1,x,h=>by
    simp only [outs,outAt] at h
    obtain ⟨y,hy,hx⟩:=outs_at h
    exact ⟨y,by simpa using hy,hx⟩
theorem plain_one {v : V} (h : plainV v=true) : isAggV v=false ∧ notOwn v:=by
  cases v <;> simp [plainV] at h <;> exact ⟨rfl,trivial⟩
theorem outCell_one {v : V} : isAggV (outCell rt v)=false:=by
  unfold outCell
  split
  · rename_i x hx
    unfold giveC at hx
    split at hx
    · simp only [Option.bind_eq_some_iff] at hx
      obtain ⟨r,_,hx⟩:=hx
      split at hx <;> cases hx
      rfl
    · simp only [Option.bind_eq_some_iff] at hx
      obtain ⟨r,_,hx⟩:=hx
      split at hx
      · split at hx <;> cases hx
        rfl
      · cases hx
    · split at hx
      · rename_i hp
        cases hx
        exact (plain_one hp).1
      · cases hx
  · rfl
theorem cells_out1 {v : V} : cells (out1 rt v)=(cells v).map (outCell rt):=by
  by_cases ha : isAggV v=true
  · cases v <;> simp [isAggV] at ha
    rfl
  · have ha' : isAggV v=false:=by simpa using ha
    have : out1 rt v=outCell rt v:=by cases v <;> first | rfl | simp [isAggV] at ha
    rw [this,cells_one ha',cells_one outCell_one]
    rfl
theorem outCell_own {v : V} (h : ¬ notOwn (outCell rt v)) : (∃ o nv s len r, v = .hs o nv [] s 0 len ∧ rt o = some r ∧ len = r.es.length ∧ s = r.s ∧ outCell rt v = .usl s r.es) ∨
    (∃ o nv s e r, v = .hp o nv [] s 0 0 ∧ rt o = some r ∧ r.es = [e] ∧ s = r.s ∧ (cells e).length = s ∧ outCell rt v = .uptr e) := by
  unfold outCell at h ⊢
  split at h
  · rename_i x hx
    unfold giveC at hx
    split at hx
    · rename_i o nv s off len
      simp only [Option.bind_eq_some_iff] at hx
      obtain ⟨r, hr, hx⟩ := hx
      split at hx
      · rename_i hc
        cases hx
        obtain ⟨rfl, h2, h3⟩ := hc
        exact .inl ⟨o, nv, s, len, r, rfl, hr, h2, h3, rfl⟩
      · cases hx
    · rename_i o nv s i k
      simp only [Option.bind_eq_some_iff] at hx
      obtain ⟨r, hr, hx⟩ := hx
      split at hx
      · rename_i e he
        split at hx
        · rename_i hc
          cases hx
          obtain ⟨rfl, rfl, h2, h3⟩ := hc
          exact .inr ⟨o, nv, s, e, r, rfl, hr, he, h2, h3, rfl⟩
        · cases hx
      · cases hx
    · split at hx
      · rename_i hp
        cases hx
        exact absurd (plain_one hp).2 h
      · cases hx
  · exact absurd trivial h
def endOwn (ρ : Own) (q : Nat) (R : List NewR) : Own:=fun b =>
  match ρ b with
  | none=>none
  | some (o,l)=>if o=0 then some (0,l) else if o=q then some (2,l) else (R[o - 1]?).map fun e=>(1,(e.1,e.2.1) :: l)
theorem endOwn_none {q R b} (h : ρ b=none) : endOwn ρ q R b=none:=by simp [endOwn,h]
theorem endOwn_far {q R b l} (h : ρ b=some (0,l)) : endOwn ρ q R b=some (0,l):=by simp [endOwn,h]
theorem endOwn_res {q R b l} (h : ρ b=some (q,l)) (h0 : q ≠ 0) : endOwn ρ q R b=some (2,l):=by simp [endOwn,h,h0]
theorem endOwn_arg {q R b l j c k r} (h : ρ b=some (1 + j,l)) (hq : 1 + j ≠ q) (hj : R[j]?=some (c,k,r)) : endOwn ρ q R b=some (1,(c,k) :: l):=by
  unfold endOwn
  rw [h]
  simp only
  rw [if_neg (by omega),if_neg hq,show 1 + j - 1=j by omega,hj]
  rfl
theorem endOwn_inv {q R b n l} (h : endOwn ρ q R b=some (n,l)) : (n=0 ∧ ρ b=some (0,l)) ∨ (n=2 ∧ q ≠ 0 ∧ ρ b=some (q,l)) ∨ ∃ j c k r t,n=1 ∧ l=(c,k) :: t ∧ ρ b=some (1 + j,t) ∧ 1 + j ≠ q ∧ R[j]?=some (c,k,r):=by
  unfold endOwn at h
  split at h
  · cases h
  · rename_i o l' hb
    split at h
    · rename_i h0
      cases h
      subst h0
      exact .inl ⟨rfl,hb⟩
    · rename_i h0
      split at h
      · rename_i hq
        cases h
        subst hq
        exact .inr (.inl ⟨rfl,h0,hb⟩)
      · rename_i hq
        simp only [Option.map_eq_some_iff] at h
        obtain ⟨⟨c,k,r⟩,he,h⟩:=h
        cases h
        exact .inr (.inr ⟨o - 1,c,k,r,l',rfl,rfl,by rw [show 1 + (o - 1)=o by omega]; exact hb,by omega,he⟩)
theorem tup_cell {v : V} (h : (cells v).all cellV=true) : isTup v=false:=by
  cases v <;> first | rfl | simp [cells,cellV] at h
structure Fits (fn : Func) (c : Code) (n : Nat) : Prop where
  body : fn.body = some c
  name : (fn.name == "runtime.NumGoroutine") = false
  args : n ≤ fn.ntmps
theorem run_enter {P : Program} {f : FuncId} {fn : Func} {c : Code} {n : Nat} (hf : P.funcs[f]?=some fn) (F : Fits fn c n) (us : Array Value) (w : World) : (callFunc f us).run P w=.ok (.enter f us) w:=by
  have:=F.name
  simp at this
  simp [callFunc,hf,F.body,this]
def ownN (vs : List V) : Nat:=(inst1s 1 0 vs).2.length
theorem enter_rel {P : Program} {G : Ground} {vs : List V} {us : List Value} (ha : ArgsOk w ρ vs us) (hi : Inn w ρ) (hg : G.ok w ρ) {fn : Func} (hn : vs.length ≤ fn.ntmps) :
    Rel G (ownN vs) w (placeOwn ρ 1 1 (inst1s 1 0 vs).2) w (placeOwn ρ 1 1 (inst1s 1 0 vs).2) (enter fn vs).2 { tmps := us.toArray ++ Array.replicate (fn.ntmps - us.toArray.size) undef, defers := [] } := by
  have hp : ∃ p : Nat → Value, ∀ (a : Nat) u, us[a]? = some u → u = p a := ⟨fun a => us.getD a undef, fun a u h => by simp [List.getD_eq_getElem?_getD, h]⟩
  obtain ⟨p, hp⟩ := hp
  have pl := placeAll (N := fun _ _ => True) (w := w) (ρ := ρ) (rt := rt0) (q := 1) (id := 1) (vs := vs) (p := p) (by intro o r h; cases h) hi.inj (by intro o r h; cases h)
    ⟨fun b o l h => ⟨(hi.lab b o l h).1, .inl (hi.lab b o l h).2⟩, rfl, hi.f⟩ (by omega) rfl (by omega) (fun _ _ _ => rfl) (fun _ _ _ _ => trivial) (fun c v hv => by
      obtain ⟨u, hu⟩ : ∃ u, us[c]? = some u := ⟨_, List.getElem?_eq_getElem (by rw [← ha.1]; exact (List.getElem?_eq_some_iff.1 hv).1)⟩
      have := ha.2 c v u hv hu
      rw [hp c u hu] at this
      exact this)
  obtain ⟨s1, s2, s3, s4⟩ := inst1s_spec (vs := vs) (id := 1) (c := 0)
  have e1 : (enter fn vs).2.tm = (inst1s 1 0 vs).1 ++ List.replicate (fn.ntmps - vs.length) .und := rfl
  have e2 : (enter fn vs).2.rt = addRoots rt0 1 (inst1s 1 0 vs).2 := rfl
  have e3 : (enter fn vs).2.nx = 1 + (inst1s 1 0 vs).2.length := rfl
  have hle : ∀ b i l, placeOwn ρ 1 1 (inst1s 1 0 vs).2 b = some (i, l) → i ≤ ownN vs := fun b i l h => by
    rcases placeOwn_inv h with ⟨h1, h2⟩ | ⟨c, k, j, h1, h2, h3⟩
    · rcases (hi.lab b i l h1).2 with h | h
      · omega
      · exact absurd h h2
    · obtain ⟨r, hr⟩ := posR_get h2
      have := (List.getElem?_eq_some_iff.1 hr).1
      unfold ownN
      omega
  refine ⟨?_, ?_, pl.inj, ?_, ?_, ?_, ?_, ?_, Wk.refl, fun b hb _ => ⟨hb, rfl⟩, fun b l hb => ⟨hb, rfl⟩, fun b l h => h, rfl, ?_, fun i b n _ h1 h2 _ => ⟨h1, h2⟩, hle, ?_⟩
  · rw [e1, e2]
    refine ⟨by simp [s1, ha.1], fun i v u hv hu => ?_⟩
    by_cases hi : i < vs.length
    · rw [List.getElem?_append_left (by rw [s1]; exact hi)] at hv
      simp only [Array.getElem?_append, List.size_toArray, ← ha.1, hi, if_true, List.getElem?_toArray] at hu
      rw [hp i u hu]
      exact (pl.val i v hv).1
    · rw [List.getElem?_append_right (by rw [s1]; omega)] at hv
      simp only [Array.getElem?_append, List.size_toArray, ← ha.1, hi, if_false, Array.getElem?_replicate] at hu
      rw [List.getElem?_replicate] at hv
      split at hv <;> cases hv
      split at hu <;> cases hu
      exact Slot.mk1 rfl (.und _)
  · rw [e2]; exact pl.rok
  · rw [e2]; exact pl.rtn
  · rw [e2]; exact pl.lab
  · rw [e2, e3]
    intro o ho
    unfold past at ho
    cases hr : addRoots rt0 1 (inst1s 1 0 vs).2 o with
    | none => rfl
    | some r =>
      rcases pl.nv o r hr with h | ⟨_, h⟩
      · cases h
      · omega
  · rw [e3]; intro o ho; unfold past at ho; omega
  · rw [e1, e2, e3]
    intro i v hv
    by_cases hi : i < vs.length
    · rw [List.getElem?_append_left (by rw [s1]; exact hi)] at hv
      exact (pl.val i v hv).2 _ fun o h1 h2 h3 => by unfold past at h3; omega
    · rw [List.getElem?_append_right (by rw [s1]; omega)] at hv
      rw [List.getElem?_replicate] at hv
      split at hv <;> cases hv
      simp [noNew]
  · exact ⟨hg.1, fun b hb => placeOwn_none (hg.2.1 b hb), hg.2.2⟩
  · rw [e3]; unfold past; unfold ownN at *; intro i h1 h2; omega
end Go.Ln
