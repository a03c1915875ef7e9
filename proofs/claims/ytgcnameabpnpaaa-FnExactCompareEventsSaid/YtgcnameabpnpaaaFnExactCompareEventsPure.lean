/-
  The plain law: the plain functions answer true.
-/
import Derived.Test.YtgcnameabpnpaaaFnExactCompareEventsFun
namespace Go.Ln
open Go
theorem cmp_Compare_int_val (x y : Int) : cmp_Compare_int x y = some (if x < y then -1 else if y < x then 1 else 0) := by
  simp only [cmp_Compare_int, cmp_isNaN_int, Option.bind_some, bne_self_eq_false, cond_false]
  by_cases h : x < y
  · simp [h]
  · by_cases h' : y < x <;> simp [h, h']
theorem cmp_Compare_string_val (x y : Str) : cmp_Compare_string x y = some (if Op.bytesLess x y then -1 else if x = y then 0 else 1) := by
  simp only [cmp_Compare_string, cmp_isNaN_string, Option.bind_some, beq_self_eq_true, Bool.not_true, cond_false]
  cases h : Op.bytesLess x y
  · by_cases h' : x = y <;> simp [h', str_beq]
  · simp
theorem cmp_Or_nat (xs : List Int) (h : xs.length < 9223372036854775807) : ∀ (k i : Nat), i + k = xs.length → cmp_Or_int_la xs (i : Int) = some (match (xs.drop i).find? (· != 0) with | some y => .inl y | none => .inr ())
  | 0, i, hi => by
    rw [cmp_Or_int_la_eq, cmp_Or_int_la_F, lt_len]
    simp [show ¬ i < xs.length by omega, List.drop_eq_nil_of_le (show xs.length ≤ i by omega)]
  | k + 1, i, hi => by
    have hlt : i < xs.length := by omega
    rw [cmp_Or_int_la_eq, cmp_Or_int_la_F, lt_len, getI_nat, List.getElem?_eq_getElem hlt, w64_succ (by omega), cmp_Or_nat xs h k (i + 1) (by omega), List.drop_eq_getElem_cons hlt, List.find?_cons]
    cases hx : (xs[i] != 0) <;> simp [hlt, hx]
theorem cmp_Or_four (a b c d : Int) : cmp_Or_int [a, b, c, d] = some (if a ≠ 0 then a else if b ≠ 0 then b else if c ≠ 0 then c else d) := by
  have := cmp_Or_nat [a, b, c, d] (by simp) 4 0 rfl
  unfold cmp_Or_int
  rw [show (0 : Int) = ((0 : Nat) : Int) from rfl, this]
  by_cases ha : a = 0 <;> by_cases hb : b = 0 <;> by_cases hc : c = 0 <;> by_cases hd : d = 0 <;> simp [ha, hb, hc, hd]
theorem compare_eq (a b : Event) : ∃ r, spec_CompareEvents a b = some r ∧ impl_CompareEvents a b = some r := by
  simp only [spec_CompareEvents, impl_CompareEvents, cmp_Compare_int_val, cmp_Compare_string_val, Option.bind_some, cmp_Or_four]
  refine ⟨_, ?_, rfl⟩
  unfold spec_l8Compare
  obtain ⟨ad, ap, aa, am⟩ := a
  obtain ⟨bd, bp, ba, bm⟩ := b
  simp only
  by_cases h1 : ad = bd
  · subst h1
    by_cases h2 : ap = bp
    · subst h2
      cases h3 : Op.bytesLess aa ba
      · by_cases h4 : aa = ba
        · subst h4
          by_cases h5 : am < bm
          · simp [h5]
          · by_cases h6 : bm < am <;> simp [h5, h6]
        · simp [h4, str_beq]
      · simp
    · by_cases h5 : ap < bp
      · simp [h2, h5, int_bne]
      · have h6 : bp < ap := by omega
        simp [h2, h5, h6, int_bne]
  · by_cases h5 : ad < bd
    · simp [h1, h5, int_bne]
    · have h6 : bd < ad := by omega
      simp [h1, h5, h6, int_bne]
theorem law_FnExactCompareEvents (a : Event) (_ : ok_Event a) (b : Event) (_ : ok_Event b) : laws_FnExactCompareEvents a b = some true := by
  obtain ⟨r, h1, h2⟩ := compare_eq a b
  simp only [laws_FnExactCompareEvents, laws_toEvent, Option.bind_some, h1, h2]
  have h3 : ∀ (c : Event) (l : Int), ∃ r, laws_szEvent c l = some r := by
    intro c l
    unfold laws_szEvent
    cases decide (w64 (l - len c.Action) < 0) <;> exact ⟨_, rfl⟩
  obtain ⟨r1, e1⟩ := h3 a 1048576
  obtain ⟨r2, e2⟩ := h3 b r1
  simp only [e1, e2, Option.bind_some]
  cases decide (r1 < 0) <;> cases decide (r2 < 0) <;> simp
end Go.Ln
