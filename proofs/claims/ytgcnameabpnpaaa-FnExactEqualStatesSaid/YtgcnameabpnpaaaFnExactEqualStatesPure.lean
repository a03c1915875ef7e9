/-
  The plain law: the plain functions answer true.
-/
import Derived.Test.YtgcnameabpnpaaaFnExactEqualStatesLib
set_option linter.unusedVariables false
set_option linter.unusedSimpArgs false
namespace Go.Ln
open Go
def sameD (x y : Duty) : Bool := x.Clause == y.Clause && (x.Since == y.Since && (x.Due == y.Due && (x.Status == y.Status && true)))
theorem equal_str (a b : List Str) (h : a.length ≤ 1048576) : slices_Equal_string_string a b = some (decide (a.length = b.length) && allB (fun x y => x == y) a b) := by
  unfold slices_Equal_string_string
  by_cases hl : a.length = b.length
  · rw [len_bne, decide_eq_true hl, Bool.not_true, cond_false, eqLoop (L := slices_Equal_string_string_la a b) (a := a) (b := b) (p := fun x y => some (x == y)) (q := fun x y => x == y) (fun _ _ _ => rfl) (fun x => by rw [slices_Equal_string_string_la_eq, slices_Equal_string_string_la_F] <;> rfl) hl (by omega)]
    cases allB (fun x y => x == y) a b <;> rfl
  · rw [len_bne, decide_eq_false hl, Bool.not_false, cond_true]
    rfl
theorem equal_duty (a b : List Duty) (h : a.length ≤ 1048576) : slices_Equal_impl_Duty_impl_Duty a b = some (decide (a.length = b.length) && allB sameD a b) := by
  unfold slices_Equal_impl_Duty_impl_Duty
  by_cases hl : a.length = b.length
  · rw [len_bne, decide_eq_true hl, Bool.not_true, cond_false, eqLoop (L := slices_Equal_impl_Duty_impl_Duty_la a b) (a := a) (b := b) (p := fun x y => some (sameD x y)) (q := sameD) (fun _ _ _ => rfl) (fun x => by rw [slices_Equal_impl_Duty_impl_Duty_la_eq, slices_Equal_impl_Duty_impl_Duty_la_F] <;> rfl) hl (by omega)]
    cases allB sameD a b <;> rfl
  · rw [len_bne, decide_eq_false hl, Bool.not_false, cond_true]
    rfl
theorem equal_int (a b : List Int) (h : a.length ≤ 1048576) : slices_Equal_int_int a b = some (decide (a.length = b.length) && allB (fun x y => x == y) a b) := by
  unfold slices_Equal_int_int
  by_cases hl : a.length = b.length
  · rw [len_bne, decide_eq_true hl, Bool.not_true, cond_false, eqLoop (L := slices_Equal_int_int_la a b) (a := a) (b := b) (p := fun x y => some (x == y)) (q := fun x y => x == y) (fun _ _ _ => rfl) (fun x => by rw [slices_Equal_int_int_la_eq, slices_Equal_int_int_la_F] <;> rfl) hl (by omega)]
    cases allB (fun x y => x == y) a b <;> rfl
  · rw [len_bne, decide_eq_false hl, Bool.not_false, cond_true]
    rfl
theorem same_int (a b : List Int) (h : a.length ≤ 1048576) : spec_l1Same a b = some (decide (a.length = b.length) && allB (fun x y => x == y) a b) := by
  unfold spec_l1Same
  by_cases hl : a.length = b.length
  · rw [len_bne, decide_eq_true hl, Bool.not_true, cond_false, eqLoop (L := spec_l1Same_la a b) (a := a) (b := b) (p := fun x y => some (x == y)) (q := fun x y => x == y) (fun _ _ _ => rfl) (fun x => by rw [spec_l1Same_la_eq, spec_l1Same_la_F] <;> rfl) hl (by omega)]
    cases allB (fun x y => x == y) a b <;> rfl
  · rw [len_bne, decide_eq_false hl, Bool.not_false, cond_true]
    rfl
def same (a b : State) : Bool := (a.Day == b.Day) && (a.Over == b.Over) && (decide (a.Facts.length = b.Facts.length) && allB (fun x y => x == y) a.Facts b.Facts) && (decide (a.Duties.length = b.Duties.length) && allB sameD a.Duties b.Duties) && (decide (a.Balances.length = b.Balances.length) && allB (fun x y => x == y) a.Balances b.Balances)
theorem impl_val (a b : State) (h : sm_State a) : impl_EqualStates a b = some (same a b) := by
  unfold impl_EqualStates same
  rw [equal_str _ _ h.2.1.1, equal_duty _ _ h.2.2.1.1, equal_int _ _ h.2.2.2.1.1]
  simp only [Option.bind_some]
  cases a.Day == b.Day <;> cases a.Over == b.Over <;> cases (decide (a.Facts.length = b.Facts.length) && allB (fun x y => x == y) a.Facts b.Facts) <;> cases (decide (a.Duties.length = b.Duties.length) && allB sameD a.Duties b.Duties) <;> rfl
theorem spec_val (a b : State) (h : sm_State a) : spec_EqualStates a b = some (same a b) := by
  unfold spec_EqualStates spec_l9Same same
  rw [same_int _ _ h.2.2.2.1.1]
  simp only [Option.bind_some, bne, len]
  by_cases h1 : a.Day = b.Day
  · by_cases h2 : a.Over = b.Over
    · by_cases h3 : a.Facts.length = b.Facts.length
      · by_cases h4 : a.Duties.length = b.Duties.length
        · have e1 := eqLoop (L := spec_l9Same_la a b) (a := a.Facts) (b := b.Facts) (p := fun x y => some (x == y)) (q := fun x y => x == y) (fun _ _ _ => rfl) (fun x => by rw [spec_l9Same_la_eq, spec_l9Same_la_F] <;> rfl) h3 (by have := h.2.1.1; omega)
          have e2 := eqLoop (L := spec_l9Same_lb a b) (a := a.Duties) (b := b.Duties) (p := fun x y => some (sameD x y)) (q := sameD) (fun _ _ _ => rfl) (fun x => by rw [spec_l9Same_lb_eq, spec_l9Same_lb_F] <;> rfl) h4 (by have := h.2.2.1.1; omega)
          rw [e1, e2]
          simp only [h1, h2, h3, h4, beq_self_eq_true, Bool.not_true, cond_false, decide_true, Bool.true_and, Bool.and_true]
          cases (decide (a.Balances.length = b.Balances.length) && allB (fun x y => x == y) a.Balances b.Balances) <;> cases allB (fun x y => x == y) a.Facts b.Facts <;> cases allB sameD a.Duties b.Duties <;> rfl
        · have h5 : ((a.Duties.length : Int) == (b.Duties.length : Int)) = false := by rw [int_beq]; simp; omega
          simp [h1, h2, h3, h4, h5]
      · have h5 : ((a.Facts.length : Int) == (b.Facts.length : Int)) = false := by rw [int_beq]; simp; omega
        simp [h1, h2, h3, h5]
    · have h5 : (a.Over == b.Over) = false := by simpa using h2
      simp [h1, h5]
  · have h5 : (a.Day == b.Day) = false := by simpa using h1
    simp [h5]
theorem law_FnExactEqualStates (a : State) (ha : ok_State a) (b : State) (hb : ok_State b) : laws_FnExactEqualStates a b = some true := by
  unfold laws_FnExactEqualStates
  obtain ⟨r1, e1, q1⟩ := sz_State a ha (l := 1048576) (by decide) (by decide)
  rw [e1, Option.bind_some]
  rcases q1 with q1 | ⟨q1, p1, s1⟩
  · rw [decide_eq_true q1, cond_true]
  rw [decide_eq_false (by omega), cond_false]
  obtain ⟨r2, e2, q2⟩ := sz_State b hb (l := r1) (by omega) (by omega)
  rw [e2, Option.bind_some]
  rcases q2 with q2 | ⟨q2, p2, s2⟩
  · rw [decide_eq_true q2, cond_true]
  rw [decide_eq_false (by omega), cond_false]
  simp only [to_State a s1, to_State b s2, Option.bind_some, spec_val a b s1, impl_val a b s1, eq_State a s1, eq_State b s2, beq_self_eq_true, Bool.not_true, cond_false]
end Go.Ln
