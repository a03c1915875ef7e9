/-
  The plain law: the plain functions answer true.
-/
import Derived.Test.YtgcnameabpnpaaaDoorFnExactEventsBetweenLib
set_option linter.unusedVariables false
set_option linter.unusedSimpArgs false
namespace Go.Ln
open Go
/-! events compared -/
def cmpE (a b : Event) : Int :=
  if a.Day = b.Day then (if a.Party = b.Party then (if Op.bytesLess a.Action b.Action = true then -1 else if a.Action = b.Action then (if a.Amount < b.Amount then -1 else if b.Amount < a.Amount then 1 else 0) else 1) else if a.Party < b.Party then -1 else 1) else if a.Day < b.Day then -1 else 1
theorem cmp_Compare_int_val (x y : Int) : cmp_Compare_int x y = some (if x < y then -1 else if y < x then 1 else 0) := by
  simp only [cmp_Compare_int, cmp_isNaN_int, Option.bind_some, bne_self_eq_false, cond_false]
  by_cases h : x < y
  · simp [h]
  · by_cases h' : y < x <;> simp [h, h']
theorem cmp_Compare_string_val (x y : Str) : cmp_Compare_string x y = some (if Op.bytesLess x y then -1 else if x = y then 0 else 1) := by
  simp only [cmp_Compare_string, cmp_isNaN_string, Option.bind_some, beq_self_eq_true, Bool.not_true, cond_false]
  cases h : Op.bytesLess x y
  · by_cases h' : x = y <;> simp [h', str_beq]
  · simp
theorem cmp_Or_nat (xs : List Int) (h : xs.length < 9223372036854775807) : ∀ (k i : Nat), i + k = xs.length → cmp_Or_int_la xs (i : Int) = some (match (xs.drop i).find? (· != 0) with | some y => .inl y | none => .inr ())
  | 0, i, hi => by
    rw [cmp_Or_int_la_eq, cmp_Or_int_la_F, lt_len]
    simp [show ¬ i < xs.length by omega, List.drop_eq_nil_of_le (show xs.length ≤ i by omega)]
  | k + 1, i, hi => by
    have hlt : i < xs.length := by omega
    rw [cmp_Or_int_la_eq, cmp_Or_int_la_F, lt_len, getI_nat, List.getElem?_eq_getElem hlt, w64_succ (by omega), cmp_Or_nat xs h k (i + 1) (by omega), List.drop_eq_getElem_cons hlt, List.find?_cons]
    cases hx : (xs[i] != 0) <;> simp [hlt, hx]
theorem cmp_Or_four (a b c d : Int) : cmp_Or_int [a, b, c, d] = some (if a ≠ 0 then a else if b ≠ 0 then b else if c ≠ 0 then c else d) := by
  have := cmp_Or_nat [a, b, c, d] (by simp) 4 0 rfl
  unfold cmp_Or_int
  rw [show (0 : Int) = ((0 : Nat) : Int) from rfl, this]
  by_cases ha : a = 0 <;> by_cases hb : b = 0 <;> by_cases hc : c = 0 <;> by_cases hd : d = 0 <;> simp [ha, hb, hc, hd]
theorem impl_cmp (a b : Event) : impl_CompareEvents a b = some (cmpE a b) := by
  simp only [impl_CompareEvents, cmp_Compare_int_val, cmp_Compare_string_val, Option.bind_some, cmp_Or_four, cmpE]
  by_cases h1 : a.Day = b.Day
  · by_cases h2 : a.Party = b.Party
    · cases h3 : Op.bytesLess a.Action b.Action
      · by_cases h4 : a.Action = b.Action <;> simp [h1, h2, h3, h4]
      · simp [h1, h2, h3]
    · by_cases h5 : a.Party < b.Party
      · simp [h1, h2, h5]
      · simp [h1, h2, h5, show b.Party < a.Party by omega]
  · by_cases h5 : a.Day < b.Day
    · simp [h1, h5]
    · simp [h1, h5, show b.Day < a.Day by omega]
theorem spec_cmp (a b : Event) : spec_l8Compare a b = some (cmpE a b) := by
  simp only [spec_l8Compare, cmpE, int_bne, str_beq]
  by_cases h1 : a.Day = b.Day
  · by_cases h2 : a.Party = b.Party
    · cases h3 : Op.bytesLess a.Action b.Action
      · by_cases h4 : a.Action = b.Action
        · by_cases h5 : a.Amount < b.Amount
          · simp [h1, h2, h4, h5]
          · by_cases h6 : b.Amount < a.Amount <;> simp [h1, h2, h4, h5, h6]
        · simp [h1, h2, h4]
      · simp [h1, h2]
    · by_cases h5 : a.Party < b.Party
      · simp [h1, h2, h5]
      · simp [h1, h2, h5, show b.Party < a.Party by omega]
  · by_cases h5 : a.Day < b.Day
    · simp [h1, h5]
    · simp [h1, h5, show b.Day < a.Day by omega]
theorem cmpE_anti (a b : Event) : cmpE b a = - cmpE a b := by
  unfold cmpE
  have ht := less_tri a.Action b.Action
  by_cases h1 : a.Day = b.Day
  · by_cases h2 : a.Party = b.Party
    · rw [if_pos h1.symm, if_pos h2.symm, if_pos h1, if_pos h2, ← ht]
      cases h3 : Op.bytesLess a.Action b.Action
      · by_cases h4 : a.Action = b.Action
        · simp only [h4, beq_self_eq_true, Bool.or_true, Bool.not_true, Bool.false_eq_true, if_false, if_true]
          split <;> split <;> first | rfl | omega
        · have h5 : (a.Action == b.Action) = false := by simpa using h4
          simp [h4, h5, fun h : b.Action = a.Action => h4 h.symm]
      · by_cases h4 : a.Action = b.Action
        · have h6 := less_tri b.Action a.Action
          rw [h4] at h3 h6
          rw [h3] at h6
          simp at h6
        · simp only [Bool.true_or, Bool.not_true, Bool.false_eq_true, if_false, if_true, if_neg (fun h : b.Action = a.Action => h4 h.symm)]
          rfl
    · rw [if_pos h1.symm, if_neg (fun h => h2 h.symm), if_pos h1, if_neg h2]
      split <;> split <;> first | rfl | omega
  · rw [if_neg (fun h => h1 h.symm), if_neg h1]
    split <;> split <;> first | rfl | omega

/-! names -/
def signB (c : UInt8) : Bool := (decide (97 ≤ c.toNat) && decide (c.toNat ≤ 122)) || (decide (48 ≤ c.toNat) && decide (c.toNat ≤ 57))
theorem spec_sign (c : UInt8) : spec_l5Sign (c.toNat : Int) = some (signB c) := by
  simp only [spec_l5Sign, signB, letJ_eq]
  by_cases h1 : 97 ≤ c.toNat <;> by_cases h2 : c.toNat ≤ 122 <;> by_cases h3 : 48 ≤ c.toNat <;> by_cases h4 : c.toNat ≤ 57 <;> simp [h1, h2, h3, h4, show ((97 : Int) ≤ c.toNat) ↔ 97 ≤ c.toNat by omega, show ((c.toNat : Int) ≤ 122) ↔ c.toNat ≤ 122 by omega, show ((48 : Int) ≤ c.toNat) ↔ 48 ≤ c.toNat by omega, show ((c.toNat : Int) ≤ 57) ↔ c.toNat ≤ 57 by omega]
def words : List Str := [[116, 114, 117, 101], [102, 114, 111, 109], [110, 111, 116], [97, 110, 100], [111, 114], [98, 111, 116, 104], [101, 105, 116, 104, 101, 114], [105, 116], [105, 110]]
def nameB (s : Str) : Bool := match s with
  | [] => false
  | c :: r => decide (r.length < 8) && decide (97 ≤ c.toNat) && decide (c.toNat ≤ 122) && s.all signB && !words.contains s
theorem cond_or (b x : Bool) : (bif b then b else x) = (b || x) := by cases b <;> rfl
theorem split_words : strings_Split [116, 114, 117, 101, 32, 102, 114, 111, 109, 32, 110, 111, 116, 32, 97, 110, 100, 32, 111, 114, 32, 98, 111, 116, 104, 32, 101, 105, 116, 104, 101, 114, 32, 105, 116, 32, 105, 110] [32] = some words := by
  have h : strings_genSplit_la [116, 114, 117, 101, 32, 102, 114, 111, 109, 32, 110, 111, 116, 32, 97, 110, 100, 32, 111, 114, 32, 98, 111, 116, 104, 32, 101, 105, 116, 104, 101, 114, 32, 105, 116, 32, 105, 110] [32] 0 (-1) 9 ([116, 114, 117, 101, 32, 102, 114, 111, 109, 32, 110, 111, 116, 32, 97, 110, 100, 32, 111, 114, 32, 98, 111, 116, 104, 32, 101, 105, 116, 104, 101, 114, 32, 105, 116, 32, 105, 110], 0, List.replicate 9 []) = some (.inr ([105, 110], 8, [[116, 114, 117, 101], [102, 114, 111, 109], [110, 111, 116], [97, 110, 100], [111, 114], [98, 111, 116, 104], [101, 105, 116, 104, 101, 114], [105, 116], []])) :=
    (fixO_iff (fun a => (strings_genSplit_la_fin _ _ _ _ _ a).1)).2 ⟨20, by decide +kernel⟩
  have e : strings_Split [116, 114, 117, 101, 32, 102, 114, 111, 109, 32, 110, 111, 116, 32, 97, 110, 100, 32, 111, 114, 32, 98, 111, 116, 104, 32, 101, 105, 116, 104, 101, 114, 32, 105, 116, 32, 105, 110] [32] = (bindJ (strings_genSplit_la [116, 114, 117, 101, 32, 102, 114, 111, 109, 32, 110, 111, 116, 32, 97, 110, 100, 32, 111, 114, 32, 98, 111, 116, 104, 32, 101, 105, 116, 104, 101, 114, 32, 105, 116, 32, 105, 110] [32] 0 (-1) 9 ([116, 114, 117, 101, 32, 102, 114, 111, 109, 32, 110, 111, 116, 32, 97, 110, 100, 32, 111, 114, 32, 98, 111, 116, 104, 32, 101, 105, 116, 104, 101, 114, 32, 105, 116, 32, 105, 110], 0, List.replicate 9 [])) fun u12 : Str × Int × (List Str) => (getI u12.2.2 u12.2.1).bind fun e13 => (subP (setI u12.2.2 u12.2.1 u12.1).length 0 (w64 (u12.2.1 + 1))).bind fun s14 => (partP (setI u12.2.2 u12.2.1 u12.1) (0 + Int.toNat (0)) (Int.toNat ((w64 (u12.2.1 + 1))) - Int.toNat (0))).bind fun p15 => some p15).bind fun r => some r := by rfl
  rw [e, h]
  rfl
theorem contains_words (s : Str) : slices_Contains_string_string words s = some (words.contains s) := by
  unfold slices_Contains_string_string slices_Index_string_string
  rw [idxLoop (L := slices_Index_string_string_la words s) (a := words) (p := fun e => some (s == e)) (q := fun e => s == e) (fun _ _ => rfl) (fun x => by rw [slices_Index_string_string_la_eq, slices_Index_string_string_la_F] <;> rfl) (by decide)]
  cases h : words.findIdx? (fun e => s == e) with
  | none =>
    have : words.contains s = false := by
      rw [List.findIdx?_eq_none_iff] at h
      rw [Bool.eq_false_iff]
      intro hc
      rw [List.contains_iff_exists_mem_beq] at hc
      obtain ⟨w, hw, he⟩ := hc
      rw [h w hw] at he
      cases he
    rw [this]
    rfl
  | some i =>
    have : words.contains s = true := by
      rw [List.findIdx?_eq_some_iff_getElem] at h
      obtain ⟨hi, he, _⟩ := h
      rw [List.contains_iff_exists_mem_beq]
      exact ⟨_, List.getElem_mem hi, he⟩
    rw [this]
    simp
theorem spec_words (s : Str) : (bif s == [116, 114, 117, 101] then s == [116, 114, 117, 101] else bif s == [102, 114, 111, 109] then s == [102, 114, 111, 109] else bif s == [110, 111, 116] then s == [110, 111, 116] else bif s == [97, 110, 100] then s == [97, 110, 100] else bif s == [111, 114] then s == [111, 114] else bif s == [98, 111, 116, 104] then s == [98, 111, 116, 104] else bif s == [101, 105, 116, 104, 101, 114] then s == [101, 105, 116, 104, 101, 114] else bif s == [105, 116] then s == [105, 116] else s == [105, 110]) = words.contains s := by
  simp only [cond_or, words, List.contains_cons, List.contains_nil, Bool.or_false]
theorem spec_name (s : Str) (hs : s.length ≤ 1048576) : spec_l5Name s = some (nameB s) := by
  unfold spec_l5Name spec_l1In nameB
  simp only [letJ_eq, Option.bind_some, spec_words]
  cases s with
  | nil => rfl
  | cons c r =>
    have e1 : decide (len (c :: r) ≥ 1) = true := decide_eq_true (by simp [len]; omega)
    have e2 : decide (len (c :: r) ≤ 8) = decide (r.length < 8) := by simp only [len, List.length_cons]; congr 1; apply propext; omega
    have e3 : getI (c :: r) (0 : Int) = some c := rfl
    have e4 : decide ((c.toNat : Int) < 97) = !decide (97 ≤ c.toNat) := by rw [← decide_not]; congr 1; apply propext; omega
    have e5 : decide ((c.toNat : Int) > 122) = !decide (c.toNat ≤ 122) := by rw [← decide_not]; congr 1; apply propext; omega
    rw [e1, e2, e3, anyLoop (r := false) (L := spec_l5Name_la (c :: r)) (a := c :: r) (p := fun c => (spec_l5Sign (c.toNat : Int)).bind fun r => some (!r)) (q := fun c => !signB c) (fun x _ => by rw [spec_sign]; rfl) (fun x => by rw [spec_l5Name_la_eq, spec_l5Name_la_F]; simp only [Option.bind_assoc, Option.bind_some]) (by omega)]
    simp only [cond_true, Option.bind_some, e4, e5]
    have e6 : ((c :: r).any fun c => !signB c) = !((c :: r).all signB) := by rw [List.not_all_eq_any_not]
    rw [e6]
    cases decide (r.length < 8) <;> cases decide (97 ≤ c.toNat) <;> cases decide (c.toNat ≤ 122) <;> cases (c :: r).all signB <;> cases words.contains (c :: r) <;> rfl
theorem impl_name (s : Str) (hs : s.length ≤ 1048576) : impl_IsValidName s = some (nameB s) := by
  unfold impl_IsValidName impl_within nameB
  simp only [letJ_eq, Option.bind_some, split_words, contains_words]
  cases s with
  | nil => rfl
  | cons c r =>
    have e1 : decide (len (c :: r) ≥ 1) = true := decide_eq_true (by simp [len]; omega)
    have e2 : decide (len (c :: r) ≤ 8) = decide (r.length < 8) := by simp only [len, List.length_cons]; congr 1; apply propext; omega
    have e3 : getI (c :: r) (0 : Int) = some c := rfl
    have e4 : decide ((c.toNat : Int) < 97) = !decide (97 ≤ c.toNat) := by rw [← decide_not]; congr 1; apply propext; omega
    have e5 : decide ((c.toNat : Int) > 122) = !decide (c.toNat ≤ 122) := by rw [← decide_not]; congr 1; apply propext; omega
    have hp : ∀ c : UInt8, (bif decide ((c.toNat : Int) < 97) then (bif decide ((c.toNat : Int) < 48) then true else decide ((c.toNat : Int) > 57)) else (bif decide ((c.toNat : Int) > 122) then (bif decide ((c.toNat : Int) < 48) then true else decide ((c.toNat : Int) > 57)) else false)) = !signB c := by
      intro c
      have f1 : decide ((c.toNat : Int) < 97) = !decide (97 ≤ c.toNat) := by rw [← decide_not]; congr 1; apply propext; omega
      have f2 : decide ((c.toNat : Int) > 122) = !decide (c.toNat ≤ 122) := by rw [← decide_not]; congr 1; apply propext; omega
      have f3 : decide ((c.toNat : Int) < 48) = !decide (48 ≤ c.toNat) := by rw [← decide_not]; congr 1; apply propext; omega
      have f4 : decide ((c.toNat : Int) > 57) = !decide (c.toNat ≤ 57) := by rw [← decide_not]; congr 1; apply propext; omega
      rw [f1, f2, f3, f4]
      unfold signB
      by_cases g1 : 97 ≤ c.toNat
      · have g3 : 48 ≤ c.toNat := by omega
        have g4 : ¬ c.toNat ≤ 57 := by omega
        simp only [g1, g3, g4, decide_true, decide_false]
        cases decide (c.toNat ≤ 122) <;> rfl
      · simp only [g1, decide_false]
        cases decide (48 ≤ c.toNat) <;> cases decide (c.toNat ≤ 57) <;> rfl
    rw [e1, e2, e3, anyLoop (r := false) (L := impl_IsValidName_la (c :: r)) (a := c :: r) (p := fun c => some (!signB c)) (q := fun c => !signB c) (fun x _ => rfl) (fun x => by rw [impl_IsValidName_la_eq, impl_IsValidName_la_F]; simp only [letJ_eq, hp, Option.bind_some]) (by omega)]
    simp only [cond_true, Option.bind_some, e4, e5]
    have e6 : ((c :: r).any fun c => !signB c) = !((c :: r).all signB) := by rw [List.not_all_eq_any_not]
    rw [e6]
    cases decide (r.length < 8) <;> cases decide (97 ≤ c.toNat) <;> cases decide (c.toNat ≤ 122) <;> cases (c :: r).all signB <;> cases words.contains (c :: r) <;> rfl

/-! events -/
theorem cond_and (b x : Bool) : (bif b then x else false) = (b && x) := by cases b <;> rfl
def inB (x a b : Int) : Bool := decide (x ≥ a) && decide (x ≤ b)
theorem spec_in (x a b : Int) : spec_l1In x a b = some (inB x a b) := by simp only [spec_l1In, letJ_eq, cond_and, inB]
theorem impl_in (x a b : Int) : impl_within x a b = some (inB x a b) := by simp only [impl_within, letJ_eq, cond_and, inB]
def evB (p : Int) (e : Event) : Bool := inB e.Day 0 36524 && (inB e.Party 0 (w64 (p - 1)) && (nameB e.Action && inB e.Amount 0 1000000))
theorem spec_ev (e : Event) (p : Int) (h : sm_Event e) : spec_l8Event e p = some (evB p e) := by
  simp only [spec_l8Event, spec_l3Good, spec_in, spec_name _ h.2.2.1, Option.bind_some, evB]
  cases inB e.Day 0 36524 <;> cases inB e.Party 0 (w64 (p - 1)) <;> cases nameB e.Action <;> rfl
theorem impl_ev (e : Event) (p : Int) (h : sm_Event e) : impl_isEvent e p = some (evB p e) := by
  simp only [impl_isEvent, impl_isDay, impl_in, impl_name _ h.2.2.1, Option.bind_some, evB]
  cases inB e.Day 0 36524 <;> cases inB e.Party 0 (w64 (p - 1)) <;> cases nameB e.Action <;> rfl
theorem findIdx_any {α : Type} {q : α → Bool} (a : List α) : (match a.findIdx? q with | some i => decide ((i : Int) ≥ 0) | none => decide ((-1 : Int) ≥ 0)) = a.any q := by
  cases h : a.findIdx? q with
  | none =>
    have : a.any q = false := by
      rw [List.findIdx?_eq_none_iff] at h
      rw [List.any_eq_false]
      intro x hx
      simp [h x hx]
    rw [this]; rfl
  | some i =>
    have : a.any q = true := by
      rw [List.findIdx?_eq_some_iff_getElem] at h
      obtain ⟨hi, he, _⟩ := h
      rw [List.any_eq_true]
      exact ⟨_, List.getElem_mem hi, he⟩
    rw [this]; simp
theorem impl_bad (a : List Event) (p : Int) (h : smL sm_Event a) : slices_ContainsFunc_impl_Event_impl_Event_w_impl_areEvents_1 a p = some (a.any fun e => !evB p e) := by
  unfold slices_ContainsFunc_impl_Event_impl_Event_w_impl_areEvents_1 slices_IndexFunc_impl_Event_impl_Event_w_impl_areEvents_1
  rw [idxLoop (L := slices_IndexFunc_impl_Event_impl_Event_w_impl_areEvents_1_la a p) (a := a) (p := fun e => impl_areEvents_1 e p) (q := fun e => !evB p e) (fun x hx => by simp only [impl_areEvents_1, impl_ev x p (h.2 x hx), Option.bind_some]) (fun x => by rw [slices_IndexFunc_impl_Event_impl_Event_w_impl_areEvents_1_la_eq, slices_IndexFunc_impl_Event_impl_Event_w_impl_areEvents_1_la_F]) (by have := h.1; omega), ← findIdx_any]
  cases a.findIdx? (fun e => !evB p e) <;> rfl
theorem impl_are (a : List Event) (p : Int) (h : smL sm_Event a) : impl_areEvents a p = some (inB p 2 4 && (decide (a.length ≤ 40) && !(a.any fun e => !evB p e))) := by
  simp only [impl_areEvents, impl_in, impl_bad a p h, Option.bind_some, show decide (len a ≤ 40) = decide (a.length ≤ 40) from by congr 1; apply propext; show (a.length : Int) ≤ 40 ↔ _; omega]
  cases inB p 2 4 <;> cases decide (a.length ≤ 40) <;> rfl

/-! lists of events -/
def adjB (a : List Event) (j : Nat) : Bool := match a[j]?, a[j + 1]? with
  | some x, some y => decide (cmpE x y > 0)
  | _, _ => false
def anyFrom (q : Nat → Bool) : Nat → Nat → Bool
  | _, 0 => false
  | k, n + 1 => q k || anyFrom q (k + 1) n
def anyDown (q : Nat → Bool) : Nat → Bool
  | 0 => false
  | n + 1 => q n || anyDown q n
theorem anyDown_iff {q : Nat → Bool} : ∀ {n : Nat}, anyDown q n = true ↔ ∃ j, j < n ∧ q j = true
  | 0 => by simp [anyDown]
  | n + 1 => by
    rw [anyDown, Bool.or_eq_true, anyDown_iff]
    constructor
    · rintro (h | ⟨j, h1, h2⟩)
      · exact ⟨n, by omega, h⟩
      · exact ⟨j, by omega, h2⟩
    · rintro ⟨j, h1, h2⟩
      by_cases e : j = n
      · subst e; exact .inl h2
      · exact .inr ⟨j, by omega, h2⟩
theorem anyFrom_iff {q : Nat → Bool} : ∀ {n k : Nat}, anyFrom q k n = true ↔ ∃ j, k ≤ j ∧ j < k + n ∧ q j = true
  | 0, k => by
    simp only [anyFrom, Bool.false_eq_true, false_iff]
    rintro ⟨j, h1, h2, _⟩
    omega
  | n + 1, k => by
    rw [anyFrom, Bool.or_eq_true, anyFrom_iff]
    constructor
    · rintro (h | ⟨j, h1, h2, h3⟩)
      · exact ⟨k, by omega, by omega, h⟩
      · exact ⟨j, by omega, by omega, h3⟩
    · rintro ⟨j, h1, h2, h3⟩
      by_cases e : j = k
      · subst e; exact .inl h3
      · exact .inr ⟨j, by omega, by omega, h3⟩
theorem any_same {q : Nat → Bool} {n : Nat} : anyFrom q 0 n = anyDown q n := by
  rw [Bool.eq_iff_iff, anyFrom_iff, anyDown_iff]
  constructor
  · rintro ⟨j, _, h, h2⟩; exact ⟨j, by omega, h2⟩
  · rintro ⟨j, h, h2⟩; exact ⟨j, by omega, by omega, h2⟩
theorem good_step (a : List Event) (p : Int) (i : Nat) (h1 : 1 ≤ i) (h2 : i < a.length) (h3 : i ≤ 40) : spec_l8Good_la a p (i : Int) = bif adjB a (i - 1) then some (.inl false) else spec_l8Good_la a p ((i + 1 : Nat) : Int) := by
  have e1 : decide ((i : Int) < len a) = true := by rw [lt_len]; exact decide_eq_true h2
  have e2 : decide ((i : Int) ≤ 40) = true := decide_eq_true (by omega)
  have e3 : w64 ((i : Int) - 1) = ((i - 1 : Nat) : Int) := by rw [w64_id (by omega) (by omega)]; omega
  rw [spec_l8Good_la_eq, spec_l8Good_la_F, letJ_eq, e1, cond_true, e2, cond_true, e3, getI_nat, getI_nat, List.getElem?_eq_getElem (show i - 1 < a.length by omega), List.getElem?_eq_getElem h2, Option.bind_some, Option.bind_some, spec_cmp, Option.bind_some, w64_succ (by omega)]
  unfold adjB
  rw [List.getElem?_eq_getElem (show i - 1 < a.length by omega), show i - 1 + 1 = i by omega, List.getElem?_eq_getElem h2]
theorem good_stop (a : List Event) (p : Int) (i : Nat) (h : a.length ≤ i ∨ 40 < i) : spec_l8Good_la a p (i : Int) = some (.inr ()) := by
  rw [spec_l8Good_la_eq, spec_l8Good_la_F, letJ_eq, lt_len]
  by_cases h1 : i < a.length
  · rw [decide_eq_true h1, cond_true, decide_eq_false (by omega), cond_false]
  · rw [decide_eq_false h1, cond_false, cond_false]
theorem good_tot (a : List Event) (p : Int) : ∀ (n i : Nat), i + n = 41 → 1 ≤ i → ∃ y, spec_l8Good_la a p (i : Int) = some y ∧ (y = .inl false ∨ y = .inr ())
  | 0, i, hi, h1 => ⟨_, good_stop a p i (.inr (by omega)), .inr rfl⟩
  | n + 1, i, hi, h1 => by
    by_cases h2 : i < a.length
    · rw [good_step a p i h1 h2 (by omega)]
      cases adjB a (i - 1)
      · exact good_tot a p n (i + 1) (by omega) (by omega)
      · exact ⟨_, rfl, .inl rfl⟩
    · exact ⟨_, good_stop a p i (.inl (by omega)), .inr rfl⟩
theorem good_val (a : List Event) (p : Int) (ha : a.length ≤ 40) : ∀ (n i : Nat), i + n = a.length → 1 ≤ i → spec_l8Good_la a p (i : Int) = some (bif anyFrom (adjB a) (i - 1) n then .inl false else .inr ())
  | 0, i, hi, h1 => good_stop a p i (.inl (by omega))
  | n + 1, i, hi, h1 => by
    rw [good_step a p i h1 (by omega) (by omega), good_val a p ha n (i + 1) (by omega) (by omega), anyFrom, show i + 1 - 1 = i - 1 + 1 by omega]
    cases adjB a (i - 1) <;> rfl
theorem valid_tot (a : List Event) (p : Int) (hs : smL sm_Event a) : ∀ (n i : Nat), i + n = 41 → ∃ y, spec_l8Valid_la a p (i : Int) = some y ∧ (y = .inl false ∨ y = .inr ())
  | n, i, hi => by
    rw [spec_l8Valid_la_eq, spec_l8Valid_la_F, letJ_eq, lt_len]
    by_cases h1 : i < a.length
    · rw [decide_eq_true h1, cond_true]
      by_cases h2 : i ≤ 40
      · rw [decide_eq_true (by omega), cond_true, getI_nat, List.getElem?_eq_getElem h1, Option.bind_some, spec_ev _ p (hs.2 _ (List.getElem_mem h1)), Option.bind_some, w64_succ (by omega)]
        cases evB p a[i]
        · exact ⟨_, rfl, .inl rfl⟩
        · match n, hi with
          | n + 1, hi => exact valid_tot a p hs n (i + 1) (by omega)
          | 0, hi => omega
      · rw [decide_eq_false (by omega), cond_false]
        exact ⟨_, rfl, .inr rfl⟩
    · rw [decide_eq_false h1, cond_false, cond_false]
      exact ⟨_, rfl, .inr rfl⟩
theorem valid_val (a : List Event) (p : Int) (hs : smL sm_Event a) (ha : a.length ≤ 40) : spec_l8Valid_la a p 0 = some (bif a.any (fun e => !evB p e) then .inl false else .inr ()) := by
  refine anyLoop (p := fun e => (spec_l8Event e p).bind fun r => some (!r)) (fun x hx => by rw [spec_ev x p (hs.2 x hx)]; rfl) (fun x => ?_) (by omega)
  rw [spec_l8Valid_la_eq, spec_l8Valid_la_F, letJ_eq]
  by_cases h : x < len a
  · have h2 : x ≤ 40 := by
      have : x < (a.length : Int) := h
      omega
    rw [decide_eq_true h, cond_true, cond_true, decide_eq_true h2, cond_true]
    simp only [Option.bind_assoc, Option.bind_some]
  · rw [decide_eq_false h]
    rfl
def validB (a : List Event) (p : Int) : Bool := decide (a.length ≤ 40) && (inB p 2 4 && (!(a.any fun e => !evB p e) && !(anyDown (adjB a) (a.length - 1))))
theorem spec_good (a : List Event) (p : Int) (hs : smL sm_Event a) : spec_l8Good a p = some (validB a p) := by
  unfold spec_l8Good spec_l8Valid validB
  have el : decide (len a ≤ 40) = decide (a.length ≤ 40) := by congr 1; apply propext; show (a.length : Int) ≤ 40 ↔ _; omega
  rw [el]
  by_cases ha : a.length ≤ 40
  · rw [valid_val a p hs ha]
    have hg : spec_l8Good_la a p 1 = some (bif anyDown (adjB a) (a.length - 1) then .inl false else .inr ()) := by
      rw [← any_same]
      cases hl : a.length with
      | zero => exact good_stop a p 1 (.inl (by omega))
      | succ n => exact good_val a p ha n 1 (by omega) (Nat.le_refl _)
    rw [hg, decide_eq_true ha, spec_in]
    simp only [cond_true, Option.bind_some]
    cases anyDown (adjB a) (a.length - 1) <;> cases a.any (fun e => !evB p e) <;> cases inB p 2 4 <;> rfl
  · obtain ⟨y1, e1, q1⟩ := good_tot a p 40 1 rfl (Nat.le_refl _)
    obtain ⟨y2, e2, q2⟩ := valid_tot a p hs 41 0 rfl
    rw [show spec_l8Good_la a p 1 = some y1 from e1, show spec_l8Valid_la a p 0 = some y2 from e2, decide_eq_false ha]
    rcases q1 with rfl | rfl <;> rcases q2 with rfl | rfl <;> rfl
theorem sorted_val (a : List Event) (hs : a.length ≤ 1048576) : ∀ (i : Nat), i < a.length → slices_IsSortedFunc_impl_Event_impl_Event_w_impl_CompareEvents_la a () (i : Int) = some (bif anyDown (adjB a) i then .inl false else .inr ())
  | 0, hi => by
    rw [slices_IsSortedFunc_impl_Event_impl_Event_w_impl_CompareEvents_la_eq, slices_IsSortedFunc_impl_Event_impl_Event_w_impl_CompareEvents_la_F]
    rfl
  | i + 1, hi => by
    have e3 : w64 (((i + 1 : Nat) : Int) - 1) = (i : Int) := by rw [w64_id (by omega) (by omega)]; omega
    rw [slices_IsSortedFunc_impl_Event_impl_Event_w_impl_CompareEvents_la_eq, slices_IsSortedFunc_impl_Event_impl_Event_w_impl_CompareEvents_la_F, decide_eq_true (by omega), cond_true, e3, getI_nat, getI_nat, List.getElem?_eq_getElem hi, List.getElem?_eq_getElem (show i < a.length by omega), Option.bind_some, Option.bind_some, impl_cmp, Option.bind_some, sorted_val a hs i (by omega), anyDown]
    have : adjB a i = decide (cmpE a[i + 1] a[i] < 0) := by
      unfold adjB
      rw [List.getElem?_eq_getElem hi, List.getElem?_eq_getElem (show i < a.length by omega)]
      show decide (cmpE a[i] a[i + 1] > 0) = _
      rw [cmpE_anti a[i] a[i + 1]]
      congr 1
      apply propext
      omega
    rw [this]
    cases decide (cmpE a[i + 1] a[i] < 0) <;> rfl
theorem impl_valid (a : List Event) (p : Int) (hs : smL sm_Event a) : impl_IsValidEvents a p = some (validB a p) := by
  unfold impl_IsValidEvents slices_IsSortedFunc_impl_Event_impl_Event_w_impl_CompareEvents validB
  rw [impl_are a p hs]
  have hg : slices_IsSortedFunc_impl_Event_impl_Event_w_impl_CompareEvents_la a () (w64 (len a - 1)) = some (bif anyDown (adjB a) (a.length - 1) then .inl false else .inr ()) := by
    have hl := hs.1
    cases h : a.length with
    | zero =>
      have : w64 (len a - 1) = -1 := by rw [show len a = 0 from by show (a.length : Int) = 0; omega]; decide
      rw [this, slices_IsSortedFunc_impl_Event_impl_Event_w_impl_CompareEvents_la_eq, slices_IsSortedFunc_impl_Event_impl_Event_w_impl_CompareEvents_la_F]
      rfl
    | succ n =>
      have : w64 (len a - 1) = (n : Int) := by rw [show len a = ((n + 1 : Nat) : Int) from by show (a.length : Int) = _; omega, w64_id (by omega) (by omega)]; omega
      rw [this, sorted_val a hs.1 n (by omega)]
      rfl
  rw [hg]
  simp only [Option.bind_some]
  cases inB p 2 4 <;> cases decide (a.length ≤ 40) <;> cases a.any (fun e => !evB p e) <;> cases anyDown (adjB a) (a.length - 1) <;> rfl
/-! marks -/
theorem markText_loop (k0 : Int) : ∀ (n : Nat) (k : Int) (s : Str), k < ((10 ^ n : Nat) : Int) → k < 9223372036854775808 → s.length + n ≤ 100 → ∃ r, laws_markText_la k0 (k, s) = some (.inr r) ∧ r.length ≤ 100
  | 0, k, s, hk, hb, hs => by
    rw [laws_markText_la_eq, laws_markText_la_F, decide_eq_false (show ¬ k > 0 by simp at hk; omega), cond_false]
    exact ⟨_, rfl, by show s.length ≤ 100; omega⟩
  | n + 1, k, s, hk, hb, hs => by
    rw [laws_markText_la_eq, laws_markText_la_F]
    by_cases h : k > 0
    · rw [decide_eq_true h, cond_true]
      unfold catS
      have h10 : k.tdiv 10 = k / 10 := Int.tdiv_eq_ediv_of_nonneg (by omega)
      rw [if_pos (by simp only [List.length_map, List.length_cons, List.length_nil]; omega), Option.bind_some, h10, w64_id (by omega) (by omega)]
      refine markText_loop k0 n (k / 10) _ ?_ (by omega) (by simp only [List.length_append, List.length_map, List.length_cons, List.length_nil]; omega)
      rw [Nat.pow_succ] at hk
      omega
    · rw [decide_eq_false h, cond_false]
      exact ⟨_, rfl, by show s.length ≤ 100; omega⟩
theorem markText_some (k : Int) (h : k ≤ 4611686018427387904) : ∃ r, laws_markText k = some r := by
  unfold laws_markText
  by_cases h0 : k ≤ 0
  · rw [decide_eq_true h0, cond_true]
    exact ⟨_, rfl⟩
  · rw [decide_eq_false h0, cond_false]
    obtain ⟨r, hr, hl⟩ := markText_loop k 19 k [] (by omega) (by omega) (by decide)
    rw [hr]
    show ∃ r', (catS [109] r).bind (fun s5 => some s5) = some r'
    unfold catS
    rw [if_pos (by simp only [List.length_cons, List.length_nil]; omega), Option.bind_some]
    exact ⟨_, rfl⟩
noncomputable def mkText (k : Int) : Str := (laws_markText k).getD []
theorem markText_eq {k : Int} (h : k ≤ 4611686018427387904) : laws_markText k = some (mkText k) := by
  obtain ⟨r, hr⟩ := markText_some k h
  unfold mkText
  rw [hr]
  rfl
noncomputable def gEvent (k : Int) (e : Event) : Int × Event := (k + 4, ⟨k, k + 1, mkText (k + 2), k + 3⟩)
theorem mark_EventS (a : List Event) (ha : smL sm_Event a) {k : Int} (h0 : 0 ≤ k) (hM : (markL gEvent k a).1 ≤ 4611686018427387904) : laws_markEventS a k = some (markL gEvent k a) := by
  have hl := ha.1
  unfold laws_markEventS
  rw [markLoop (L := laws_markEventS_la a k) (g := gEvent) (M := 4611686018427387904) (fun k x => by show k ≤ k + 4; omega) ?_ ?_ h0 hM (by omega)]
  · show (bif Nat.beq (markL gEvent k a).2.length a.length then some ((markL gEvent k a).1, (markL gEvent k a).2) else none) = _
    rw [markL_len, Nat.beq_refl]
    rfl
  · intro k i xs e h0 h1 hi he
    have h1' : k + 4 ≤ 4611686018427387904 := h1
    obtain ⟨hi', _⟩ := List.getElem?_eq_some_iff.1 he
    have w1 : w64 (k + 1) = k + 1 := w64_id (by omega) (by omega)
    have w2 : w64 (k + 1 + 1) = k + 2 := by rw [w64_id (by omega) (by omega)]; omega
    have w3 : w64 (k + 2 + 1) = k + 3 := by rw [w64_id (by omega) (by omega)]; omega
    have w4 : w64 (k + 3 + 1) = k + 4 := by rw [w64_id (by omega) (by omega)]; omega
    rw [laws_markEventS_la_eq, laws_markEventS_la_F, lt_len, decide_eq_true hi', cond_true]
    simp only [getI_nat, setI_nat, he, Option.bind_some, w1, w2, w3, w4, markText_eq (show k + 2 ≤ 4611686018427387904 by omega), List.getElem?_set_self, List.length_set, hi', List.set_set, w64_succ (show i < 9223372036854775807 by omega)]
    rfl
  · intro k i xs hi
    rw [laws_markEventS_la_eq, laws_markEventS_la_F, lt_len, decide_eq_false (show ¬ i < xs.length by omega), cond_false]
theorem held_EventS (a : List Event) (ha : a.length ≤ 1048576) {k : Int} (h0 : 0 ≤ k) (hM : (markL gEvent k a).1 ≤ 4611686018427387904) : laws_heldEventS (markL gEvent k a).2 k = some (markL gEvent k a).1 := by
  unfold laws_heldEventS
  rw [heldLoop (H := laws_heldEventS_la (markL gEvent k a).2 k) (g := gEvent) (M := 4611686018427387904) (a := (markL gEvent k a).2) (xs := a) (fun k x => by show k ≤ k + 4; omega) ?_ ?_ h0 hM (by omega) rfl]
  · rfl
  · intro k' i e h0 h1 hi he
    have h1' : k' + 4 ≤ 4611686018427387904 := h1
    obtain ⟨hi', _⟩ := List.getElem?_eq_some_iff.1 he
    have w1 : w64 (k' + 1) = k' + 1 := w64_id (by omega) (by omega)
    have w2 : w64 (k' + 1 + 1) = k' + 2 := by rw [w64_id (by omega) (by omega)]; omega
    have w3 : w64 (k' + 2 + 1) = k' + 3 := by rw [w64_id (by omega) (by omega)]; omega
    have w4 : w64 (k' + 3 + 1) = k' + 4 := by rw [w64_id (by omega) (by omega)]; omega
    rw [laws_heldEventS_la_eq, laws_heldEventS_la_F, lt_len, decide_eq_true hi', cond_true]
    simp only [getI_nat, he, Option.bind_some, w1, w2, w3, w4, markText_eq (show k' + 2 ≤ 4611686018427387904 by omega), w64_succ (show i < 9223372036854775807 by omega), gEvent, bne_self_eq_false, beq_self_eq_true, Bool.not_true, cond_false]
  · intro k' i hi
    rw [laws_heldEventS_la_eq, laws_heldEventS_la_F, lt_len, decide_eq_false (by omega), cond_false]
theorem markE_le (a : List Event) (ha : a.length ≤ 1048576) : 1 ≤ (markL gEvent 1 a).1 ∧ (markL gEvent 1 a).1 ≤ 4611686018427387904 := by
  have h1 := markL_mono (g := gEvent) (fun k x => by show k ≤ k + 4; omega) (xs := a) (k := 1)
  have h2 := markL_le (g := gEvent) (c := 4) (fun k x => by show k + 4 ≤ k + (4 : Nat); omega) (xs := a) (k := 1)
  omega
theorem appI_one {α : Type} {b : Nat} {xs : List α} {y : α} (h : (xs.length + 1) * b ≤ 1099511627776) (h2 : xs.length + 1 ≤ 1099511627776) : appI b xs [y] = some (xs ++ [y]) := by
  unfold appI
  rw [if_pos]
  simp only [List.length_cons, List.length_nil, lim, Nat.zero_add]
  omega
theorem len_le1 {α β : Type} {f : α → List β} (hf : ∀ x, (f x).length ≤ 1) : ∀ (xs : List α), (xs.flatMap f).length ≤ xs.length
  | [] => by simp
  | x :: xs => by
    have h1 := hf x
    have h2 := len_le1 hf xs
    rw [List.flatMap_cons, List.length_append, List.length_cons]
    omega
theorem flatMap_filter' {α : Type} {p : α → Bool} : ∀ (xs : List α), (xs.flatMap fun x => bif p x then [x] else []) = xs.filter p
  | [] => rfl
  | x :: xs => by
    rw [List.flatMap_cons, flatMap_filter' xs, List.filter_cons]
    cases p x <;> rfl
theorem take_len {α : Type} {xs : List α} {n : Nat} : (xs.take n).length ≤ n := by rw [List.length_take]; omega
theorem clone_ev (a : List Event) (ha : a.length ≤ 1048576) : slices_Clone_impl_Event_impl_Event a = some a := by
  unfold slices_Clone_impl_Event_impl_Event nilO appI
  rw [if_pos (by simp only [List.length_nil, lim]; omega)]
  cases a <;> simp [bothO]
/-! events between two days -/
theorem spec_between (a : List Event) (p f t : Int) (ha : a.length ≤ 1048576) : spec_EventsBetween_la a p f t (0, []) = some (.inr (a.filter fun e => inB e.Day f t)) := by
  rw [← flatMap_filter']
  refine pushLoop (fun i x hx => ?_) (fun i z hi => ?_)
  · obtain ⟨h1, _⟩ := List.getElem?_eq_some_iff.1 hx
    have hl := Nat.le_trans (len_le1 (f := fun e : Event => bif inB e.Day f t then [e] else []) (fun x => by cases inB x.Day f t <;> simp) (a.take i)) take_len
    rw [spec_EventsBetween_la_eq, spec_EventsBetween_la_F, lt_len, decide_eq_true h1, cond_true, getI_nat, hx, Option.bind_some, spec_in, Option.bind_some, w64_succ (by omega)]
    cases inB x.Day f t with
    | true => rw [cond_true, Option.bind_some, appI_one (show (((a.take i).flatMap fun e : Event => bif inB e.Day f t then [e] else []).length + 1) * 40 ≤ 1099511627776 by omega) (show ((a.take i).flatMap fun e : Event => bif inB e.Day f t then [e] else []).length + 1 ≤ 1099511627776 by omega), Option.bind_some, bindL_inr]; rfl
    | false => rw [cond_false, bindL_inr, cond_false, List.append_nil]
  · rw [spec_EventsBetween_la_eq, spec_EventsBetween_la_F, lt_len, decide_eq_false (show ¬ i < a.length by omega), cond_false]
theorem impl_between (a : List Event) (f t : Int) (ha : a.length ≤ 1048576) : slices_DeleteFunc_impl_Event_impl_Event_w_impl_EventsBetween_1 a (f, t) = some (a.filter fun e => inB e.Day f t) := by
  have hb : ∀ e : Event, impl_EventsBetween_1 e f t = some (!inB e.Day f t) := fun e => by simp only [impl_EventsBetween_1, impl_in, Option.bind_some]
  unfold slices_DeleteFunc_impl_Event_impl_Event_w_impl_EventsBetween_1 slices_IndexFunc_impl_Event_impl_Event_w_impl_EventsBetween_1
  rw [idxLoop (L := slices_IndexFunc_impl_Event_impl_Event_w_impl_EventsBetween_1_la a (f, t)) (a := a) (p := fun e => impl_EventsBetween_1 e f t) (q := fun e => !inB e.Day f t) (fun x _ => hb x) (fun x => by rw [slices_IndexFunc_impl_Event_impl_Event_w_impl_EventsBetween_1_la_eq, slices_IndexFunc_impl_Event_impl_Event_w_impl_EventsBetween_1_la_F]) (by omega)]
  cases h : a.findIdx? (fun e => !inB e.Day f t) with
  | none =>
    rw [List.findIdx?_eq_none_iff] at h
    have : a.filter (fun e => inB e.Day f t) = a := List.filter_eq_self.2 fun x hx => by simpa using h x hx
    rw [this]
    rfl
  | some i =>
    rw [List.findIdx?_eq_some_iff_getElem] at h
    obtain ⟨hi, he, hj⟩ := h
    have e1 : ((i : Int) == -1) = false := by rw [beq_eq_false_iff_ne]; omega
    simp only [bindJ_inl, Option.bind_some, e1, cond_false]
    rw [w64_succ (by omega)]
    have hk : ∀ (j : Nat) (x : Event), a[j]? = some x → (fun j => match a[j]? with | some x => inB x.Day f t | none => false) j = (fun e : Event => inB e.Day f t) x := fun j x hx => by simp only [hx]
    obtain ⟨i', z, e, hz, hi', ht⟩ := delLoop (L := slices_DeleteFunc_impl_Event_impl_Event_w_impl_EventsBetween_1_la a (f, t)) (a := a) (keep := fun j => match a[j]? with | some x => inB x.Day f t | none => false)
      (by
        intro i j z x hz _ hij hx hx2 _
        obtain ⟨h1, _⟩ := List.getElem?_eq_some_iff.1 hx
        have h2 : z[i]? = some z[i] := List.getElem?_eq_getElem (by omega)
        rw [slices_DeleteFunc_impl_Event_impl_Event_w_impl_EventsBetween_1_la_eq, slices_DeleteFunc_impl_Event_impl_Event_w_impl_EventsBetween_1_la_F, lt_len, decide_eq_true (show j < z.length by omega), cond_true]
        simp only [getI_nat, hx2, Option.bind_some, hb, hx, h2, w64_succ (show j < 9223372036854775807 by omega), w64_succ (show i < 9223372036854775807 by omega), setI_nat, Bool.not_not]
        cases inB x.Day f t <;> rfl)
      (by
        intro i j z hz _ _ hj
        rw [slices_DeleteFunc_impl_Event_impl_Event_w_impl_EventsBetween_1_la_eq, slices_DeleteFunc_impl_Event_impl_Event_w_impl_EventsBetween_1_la_F, lt_len, decide_eq_false (show ¬ j < z.length by omega), cond_false])
      (i0 := i) (by
        rw [kept_no (by simpa [List.getElem?_eq_getElem hi] using he), kept_filter hk (by omega), List.filter_eq_self]
        intro x hx
        obtain ⟨j, hj1, rfl⟩ := List.mem_iff_getElem.1 hx
        rw [List.length_take] at hj1
        have := hj j (by omega)
        rw [List.getElem_take]
        simpa using this) hi
    rw [e, bindJ_inr]
    refine (cutL (c := Event.mk 0 0 [] 0) (F := fun p14 => some p14) hi').trans ?_
    rw [ht, kept_filter hk (Nat.le_refl _), List.take_length]
theorem law_FnExactEventsBetween (a : List Event) (ha : okL ok_Event a) (p : Int) (hp : I64 p) (f : Int) (hf : I64 f) (t : Int) (ht : I64 t) : laws_FnExactEventsBetween a p f t = some true := by
  unfold laws_FnExactEventsBetween
  obtain ⟨r1, e1, q1⟩ := sz_EventS a ha (l := 1048576) (by decide) (by decide)
  rw [e1, Option.bind_some]
  rcases q1 with q1 | ⟨q1, p1, s1⟩
  · rw [decide_eq_true q1, cond_true]
  rw [decide_eq_false (by omega), cond_false]
  obtain ⟨v, h1, h2, s3⟩ : ∃ v, spec_EventsBetween a p f t = some v ∧ impl_EventsBetween a p f t = some v ∧ smL sm_Event v.1 := by
    unfold spec_EventsBetween impl_EventsBetween
    rw [spec_good a p s1, impl_valid a p s1, Option.bind_some, Option.bind_some]
    cases validB a p
    · exact ⟨_, rfl, rfl, by simp [smL]⟩
    · rw [clone_ev a s1.1]
      simp only [Bool.not_true, cond_false, Option.bind_some, spec_between a p f t s1.1, impl_between a f t s1.1, bindJ_inr]
      exact ⟨_, rfl, rfl, Nat.le_trans (List.length_filter_le _ _) s1.1, fun x hx => s1.2 x (List.mem_filter.1 hx).1⟩
  obtain ⟨m1, m2⟩ := markE_le a s1.1
  obtain ⟨m3, m4⟩ := markE_le v.1 s3.1
  simp only [to_EventS a s1, Option.bind_some, h1, h2, eq_EventS a s1, eq_EventS v.1 s3, letJ_eq, bne_self_eq_false, beq_self_eq_true, Bool.not_true, cond_false, mark_EventS a s1 (by decide) m2, mark_EventS v.1 s3 (by decide) m4, held_EventS v.1 s3.1 (by decide) m4, markL_len, Nat.beq_refl, cond_true, decide_eq_false (show ¬ (markL gEvent 1 a).1 < 0 by omega), decide_eq_false (show ¬ (markL gEvent 1 v.1).1 < 0 by omega), bindJ]
end Go.Ln
