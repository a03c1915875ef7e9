/-
  The plain law: the plain functions answer true.
-/
import Derived.Test.YtgcnameabpnpaaaDoorFnExactEventDaysLib
set_option linter.unusedVariables false
set_option linter.unusedSimpArgs false
namespace Go.Ln
open Go
/-! events compared -/
def cmpE (a b : Event) : Int :=
  if a.Day = b.Day then (if a.Party = b.Party then (if Op.bytesLess a.Action b.Action = true then -1 else if a.Action = b.Action then (if a.Amount < b.Amount then -1 else if b.Amount < a.Amount then 1 else 0) else 1) else if a.Party < b.Party then -1 else 1) else if a.Day < b.Day then -1 else 1
theorem cmp_Compare_int_val (x y : Int) : cmp_Compare_int x y = some (if x < y then -1 else if y < x then 1 else 0) := by
  simp only [cmp_Compare_int, cmp_isNaN_int, Option.bind_some, bne_self_eq_false, cond_false]
  by_cases h : x < y
  · simp [h]
  · by_cases h' : y < x <;> simp [h, h']
theorem cmp_Compare_string_val (x y : Str) : cmp_Compare_string x y = some (if Op.bytesLess x y then -1 else if x = y then 0 else 1) := by
  simp only [cmp_Compare_string, cmp_isNaN_string, Option.bind_some, beq_self_eq_true, Bool.not_true, cond_false]
  cases h : Op.bytesLess x y
  · by_cases h' : x = y <;> simp [h', str_beq]
  · simp
theorem cmp_Or_nat (xs : List Int) (h : xs.length < 9223372036854775807) : ∀ (k i : Nat), i + k = xs.length → cmp_Or_int_la xs (i : Int) = some (match (xs.drop i).find? (· != 0) with | some y => .inl y | none => .inr ())
  | 0, i, hi => by
    rw [cmp_Or_int_la_eq, cmp_Or_int_la_F, lt_len]
    simp [show ¬ i < xs.length by omega, List.drop_eq_nil_of_le (show xs.length ≤ i by omega)]
  | k + 1, i, hi => by
    have hlt : i < xs.length := by omega
    rw [cmp_Or_int_la_eq, cmp_Or_int_la_F, lt_len, getI_nat, List.getElem?_eq_getElem hlt, w64_succ (by omega), cmp_Or_nat xs h k (i + 1) (by omega), List.drop_eq_getElem_cons hlt, List.find?_cons]
    cases hx : (xs[i] != 0) <;> simp [hlt, hx]
theorem cmp_Or_four (a b c d : Int) : cmp_Or_int [a, b, c, d] = some (if a ≠ 0 then a else if b ≠ 0 then b else if c ≠ 0 then c else d) := by
  have := cmp_Or_nat [a, b, c, d] (by simp) 4 0 rfl
  unfold cmp_Or_int
  rw [show (0 : Int) = ((0 : Nat) : Int) from rfl, this]
  by_cases ha : a = 0 <;> by_cases hb : b = 0 <;> by_cases hc : c = 0 <;> by_cases hd : d = 0 <;> simp [ha, hb, hc, hd]
theorem impl_cmp (a b : Event) : impl_CompareEvents a b = some (cmpE a b) := by
  simp only [impl_CompareEvents, cmp_Compare_int_val, cmp_Compare_string_val, Option.bind_some, cmp_Or_four, cmpE]
  by_cases h1 : a.Day = b.Day
  · by_cases h2 : a.Party = b.Party
    · cases h3 : Op.bytesLess a.Action b.Action
      · by_cases h4 : a.Action = b.Action <;> simp [h1, h2, h3, h4]
      · simp [h1, h2, h3]
    · by_cases h5 : a.Party < b.Party
      · simp [h1, h2, h5]
      · simp [h1, h2, h5, show b.Party < a.Party by omega]
  · by_cases h5 : a.Day < b.Day
    · simp [h1, h5]
    · simp [h1, h5, show b.Day < a.Day by omega]
theorem spec_cmp (a b : Event) : spec_l8Compare a b = some (cmpE a b) := by
  simp only [spec_l8Compare, cmpE, int_bne, str_beq]
  by_cases h1 : a.Day = b.Day
  · by_cases h2 : a.Party = b.Party
    · cases h3 : Op.bytesLess a.Action b.Action
      · by_cases h4 : a.Action = b.Action
        · by_cases h5 : a.Amount < b.Amount
          · simp [h1, h2, h4, h5]
          · by_cases h6 : b.Amount < a.Amount <;> simp [h1, h2, h4, h5, h6]
        · simp [h1, h2, h4]
      · simp [h1, h2]
    · by_cases h5 : a.Party < b.Party
      · simp [h1, h2, h5]
      · simp [h1, h2, h5, show b.Party < a.Party by omega]
  · by_cases h5 : a.Day < b.Day
    · simp [h1, h5]
    · simp [h1, h5, show b.Day < a.Day by omega]
theorem cmpE_anti (a b : Event) : cmpE b a = - cmpE a b := by
  unfold cmpE
  have ht := less_tri a.Action b.Action
  by_cases h1 : a.Day = b.Day
  · by_cases h2 : a.Party = b.Party
    · rw [if_pos h1.symm, if_pos h2.symm, if_pos h1, if_pos h2, ← ht]
      cases h3 : Op.bytesLess a.Action b.Action
      · by_cases h4 : a.Action = b.Action
        · simp only [h4, beq_self_eq_true, Bool.or_true, Bool.not_true, Bool.false_eq_true, if_false, if_true]
          split <;> split <;> first | rfl | omega
        · have h5 : (a.Action == b.Action) = false := by simpa using h4
          simp [h4, h5, fun h : b.Action = a.Action => h4 h.symm]
      · by_cases h4 : a.Action = b.Action
        · have h6 := less_tri b.Action a.Action
          rw [h4] at h3 h6
          rw [h3] at h6
          simp at h6
        · simp only [Bool.true_or, Bool.not_true, Bool.false_eq_true, if_false, if_true, if_neg (fun h : b.Action = a.Action => h4 h.symm)]
          rfl
    · rw [if_pos h1.symm, if_neg (fun h => h2 h.symm), if_pos h1, if_neg h2]
      split <;> split <;> first | rfl | omega
  · rw [if_neg (fun h => h1 h.symm), if_neg h1]
    split <;> split <;> first | rfl | omega

/-! names -/
def signB (c : UInt8) : Bool := (decide (97 ≤ c.toNat) && decide (c.toNat ≤ 122)) || (decide (48 ≤ c.toNat) && decide (c.toNat ≤ 57))
theorem spec_sign (c : UInt8) : spec_l5Sign (c.toNat : Int) = some (signB c) := by
  simp only [spec_l5Sign, signB, letJ_eq]
  by_cases h1 : 97 ≤ c.toNat <;> by_cases h2 : c.toNat ≤ 122 <;> by_cases h3 : 48 ≤ c.toNat <;> by_cases h4 : c.toNat ≤ 57 <;> simp [h1, h2, h3, h4, show ((97 : Int) ≤ c.toNat) ↔ 97 ≤ c.toNat by omega, show ((c.toNat : Int) ≤ 122) ↔ c.toNat ≤ 122 by omega, show ((48 : Int) ≤ c.toNat) ↔ 48 ≤ c.toNat by omega, show ((c.toNat : Int) ≤ 57) ↔ c.toNat ≤ 57 by omega]
def words : List Str := [[116, 114, 117, 101], [102, 114, 111, 109], [110, 111, 116], [97, 110, 100], [111, 114], [98, 111, 116, 104], [101, 105, 116, 104, 101, 114], [105, 116], [105, 110]]
def nameB (s : Str) : Bool := match s with
  | [] => false
  | c :: r => decide (r.length < 8) && decide (97 ≤ c.toNat) && decide (c.toNat ≤ 122) && s.all signB && !words.contains s
theorem cond_or (b x : Bool) : (bif b then b else x) = (b || x) := by cases b <;> rfl
theorem split_words : strings_Split [116, 114, 117, 101, 32, 102, 114, 111, 109, 32, 110, 111, 116, 32, 97, 110, 100, 32, 111, 114, 32, 98, 111, 116, 104, 32, 101, 105, 116, 104, 101, 114, 32, 105, 116, 32, 105, 110] [32] = some words := by
  have h : strings_genSplit_la [116, 114, 117, 101, 32, 102, 114, 111, 109, 32, 110, 111, 116, 32, 97, 110, 100, 32, 111, 114, 32, 98, 111, 116, 104, 32, 101, 105, 116, 104, 101, 114, 32, 105, 116, 32, 105, 110] [32] 0 (-1) 9 ([116, 114, 117, 101, 32, 102, 114, 111, 109, 32, 110, 111, 116, 32, 97, 110, 100, 32, 111, 114, 32, 98, 111, 116, 104, 32, 101, 105, 116, 104, 101, 114, 32, 105, 116, 32, 105, 110], 0, List.replicate 9 []) = some (.inr ([105, 110], 8, [[116, 114, 117, 101], [102, 114, 111, 109], [110, 111, 116], [97, 110, 100], [111, 114], [98, 111, 116, 104], [101, 105, 116, 104, 101, 114], [105, 116], []])) :=
    (fixO_iff (fun a => (strings_genSplit_la_fin _ _ _ _ _ a).1)).2 ⟨20, by decide +kernel⟩
  have e : strings_Split [116, 114, 117, 101, 32, 102, 114, 111, 109, 32, 110, 111, 116, 32, 97, 110, 100, 32, 111, 114, 32, 98, 111, 116, 104, 32, 101, 105, 116, 104, 101, 114, 32, 105, 116, 32, 105, 110] [32] = (bindJ (strings_genSplit_la [116, 114, 117, 101, 32, 102, 114, 111, 109, 32, 110, 111, 116, 32, 97, 110, 100, 32, 111, 114, 32, 98, 111, 116, 104, 32, 101, 105, 116, 104, 101, 114, 32, 105, 116, 32, 105, 110] [32] 0 (-1) 9 ([116, 114, 117, 101, 32, 102, 114, 111, 109, 32, 110, 111, 116, 32, 97, 110, 100, 32, 111, 114, 32, 98, 111, 116, 104, 32, 101, 105, 116, 104, 101, 114, 32, 105, 116, 32, 105, 110], 0, List.replicate 9 [])) fun u12 : Str × Int × (List Str) => (getI u12.2.2 u12.2.1).bind fun e13 => (subP (setI u12.2.2 u12.2.1 u12.1).length 0 (w64 (u12.2.1 + 1))).bind fun s14 => (partP (setI u12.2.2 u12.2.1 u12.1) (0 + Int.toNat (0)) (Int.toNat ((w64 (u12.2.1 + 1))) - Int.toNat (0))).bind fun p15 => some p15).bind fun r => some r := by rfl
  rw [e, h]
  rfl
theorem contains_words (s : Str) : slices_Contains_string_string words s = some (words.contains s) := by
  unfold slices_Contains_string_string slices_Index_string_string
  rw [idxLoop (L := slices_Index_string_string_la words s) (a := words) (p := fun e => some (s == e)) (q := fun e => s == e) (fun _ _ => rfl) (fun x => by rw [slices_Index_string_string_la_eq, slices_Index_string_string_la_F] <;> rfl) (by decide)]
  cases h : words.findIdx? (fun e => s == e) with
  | none =>
    have : words.contains s = false := by
      rw [List.findIdx?_eq_none_iff] at h
      rw [Bool.eq_false_iff]
      intro hc
      rw [List.contains_iff_exists_mem_beq] at hc
      obtain ⟨w, hw, he⟩ := hc
      rw [h w hw] at he
      cases he
    rw [this]
    rfl
  | some i =>
    have : words.contains s = true := by
      rw [List.findIdx?_eq_some_iff_getElem] at h
      obtain ⟨hi, he, _⟩ := h
      rw [List.contains_iff_exists_mem_beq]
      exact ⟨_, List.getElem_mem hi, he⟩
    rw [this]
    simp
theorem spec_words (s : Str) : (bif s == [116, 114, 117, 101] then s == [116, 114, 117, 101] else bif s == [102, 114, 111, 109] then s == [102, 114, 111, 109] else bif s == [110, 111, 116] then s == [110, 111, 116] else bif s == [97, 110, 100] then s == [97, 110, 100] else bif s == [111, 114] then s == [111, 114] else bif s == [98, 111, 116, 104] then s == [98, 111, 116, 104] else bif s == [101, 105, 116, 104, 101, 114] then s == [101, 105, 116, 104, 101, 114] else bif s == [105, 116] then s == [105, 116] else s == [105, 110]) = words.contains s := by
  simp only [cond_or, words, List.contains_cons, List.contains_nil, Bool.or_false]
theorem spec_name (s : Str) (hs : s.length ≤ 1048576) : spec_l5Name s = some (nameB s) := by
  unfold spec_l5Name spec_l1In nameB
  simp only [letJ_eq, Option.bind_some, spec_words]
  cases s with
  | nil => rfl
  | cons c r =>
    have e1 : decide (len (c :: r) ≥ 1) = true := decide_eq_true (by simp [len]; omega)
    have e2 : decide (len (c :: r) ≤ 8) = decide (r.length < 8) := by simp only [len, List.length_cons]; congr 1; apply propext; omega
    have e3 : getI (c :: r) (0 : Int) = some c := rfl
    have e4 : decide ((c.toNat : Int) < 97) = !decide (97 ≤ c.toNat) := by rw [← decide_not]; congr 1; apply propext; omega
    have e5 : decide ((c.toNat : Int) > 122) = !decide (c.toNat ≤ 122) := by rw [← decide_not]; congr 1; apply propext; omega
    rw [e1, e2, e3, anyLoop (r := false) (L := spec_l5Name_la (c :: r)) (a := c :: r) (p := fun c => (spec_l5Sign (c.toNat : Int)).bind fun r => some (!r)) (q := fun c => !signB c) (fun x _ => by rw [spec_sign]; rfl) (fun x => by rw [spec_l5Name_la_eq, spec_l5Name_la_F]; simp only [Option.bind_assoc, Option.bind_some]) (by omega)]
    simp only [cond_true, Option.bind_some, e4, e5]
    have e6 : ((c :: r).any fun c => !signB c) = !((c :: r).all signB) := by rw [List.not_all_eq_any_not]
    rw [e6]
    cases decide (r.length < 8) <;> cases decide (97 ≤ c.toNat) <;> cases decide (c.toNat ≤ 122) <;> cases (c :: r).all signB <;> cases words.contains (c :: r) <;> rfl
theorem impl_name (s : Str) (hs : s.length ≤ 1048576) : impl_IsValidName s = some (nameB s) := by
  unfold impl_IsValidName impl_within nameB
  simp only [letJ_eq, Option.bind_some, split_words, contains_words]
  cases s with
  | nil => rfl
  | cons c r =>
    have e1 : decide (len (c :: r) ≥ 1) = true := decide_eq_true (by simp [len]; omega)
    have e2 : decide (len (c :: r) ≤ 8) = decide (r.length < 8) := by simp only [len, List.length_cons]; congr 1; apply propext; omega
    have e3 : getI (c :: r) (0 : Int) = some c := rfl
    have e4 : decide ((c.toNat : Int) < 97) = !decide (97 ≤ c.toNat) := by rw [← decide_not]; congr 1; apply propext; omega
    have e5 : decide ((c.toNat : Int) > 122) = !decide (c.toNat ≤ 122) := by rw [← decide_not]; congr 1; apply propext; omega
    have hp : ∀ c : UInt8, (bif decide ((c.toNat : Int) < 97) then (bif decide ((c.toNat : Int) < 48) then true else decide ((c.toNat : Int) > 57)) else (bif decide ((c.toNat : Int) > 122) then (bif decide ((c.toNat : Int) < 48) then true else decide ((c.toNat : Int) > 57)) else false)) = !signB c := by
      intro c
      have f1 : decide ((c.toNat : Int) < 97) = !decide (97 ≤ c.toNat) := by rw [← decide_not]; congr 1; apply propext; omega
      have f2 : decide ((c.toNat : Int) > 122) = !decide (c.toNat ≤ 122) := by rw [← decide_not]; congr 1; apply propext; omega
      have f3 : decide ((c.toNat : Int) < 48) = !decide (48 ≤ c.toNat) := by rw [← decide_not]; congr 1; apply propext; omega
      have f4 : decide ((c.toNat : Int) > 57) = !decide (c.toNat ≤ 57) := by rw [← decide_not]; congr 1; apply propext; omega
      rw [f1, f2, f3, f4]
      unfold signB
      by_cases g1 : 97 ≤ c.toNat
      · have g3 : 48 ≤ c.toNat := by omega
        have g4 : ¬ c.toNat ≤ 57 := by omega
        simp only [g1, g3, g4, decide_true, decide_false]
        cases decide (c.toNat ≤ 122) <;> rfl
      · simp only [g1, decide_false]
        cases decide (48 ≤ c.toNat) <;> cases decide (c.toNat ≤ 57) <;> rfl
    rw [e1, e2, e3, anyLoop (r := false) (L := impl_IsValidName_la (c :: r)) (a := c :: r) (p := fun c => some (!signB c)) (q := fun c => !signB c) (fun x _ => rfl) (fun x => by rw [impl_IsValidName_la_eq, impl_IsValidName_la_F]; simp only [letJ_eq, hp, Option.bind_some]) (by omega)]
    simp only [cond_true, Option.bind_some, e4, e5]
    have e6 : ((c :: r).any fun c => !signB c) = !((c :: r).all signB) := by rw [List.not_all_eq_any_not]
    rw [e6]
    cases decide (r.length < 8) <;> cases decide (97 ≤ c.toNat) <;> cases decide (c.toNat ≤ 122) <;> cases (c :: r).all signB <;> cases words.contains (c :: r) <;> rfl

/-! events -/
theorem cond_and (b x : Bool) : (bif b then x else false) = (b && x) := by cases b <;> rfl
def inB (x a b : Int) : Bool := decide (x ≥ a) && decide (x ≤ b)
theorem spec_in (x a b : Int) : spec_l1In x a b = some (inB x a b) := by simp only [spec_l1In, letJ_eq, cond_and, inB]
theorem impl_in (x a b : Int) : impl_within x a b = some (inB x a b) := by simp only [impl_within, letJ_eq, cond_and, inB]
def evB (p : Int) (e : Event) : Bool := inB e.Day 0 36524 && (inB e.Party 0 (w64 (p - 1)) && (nameB e.Action && inB e.Amount 0 1000000))
theorem spec_ev (e : Event) (p : Int) (h : sm_Event e) : spec_l8Event e p = some (evB p e) := by
  simp only [spec_l8Event, spec_l3Good, spec_in, spec_name _ h.2.2.1, Option.bind_some, evB]
  cases inB e.Day 0 36524 <;> cases inB e.Party 0 (w64 (p - 1)) <;> cases nameB e.Action <;> rfl
theorem impl_ev (e : Event) (p : Int) (h : sm_Event e) : impl_isEvent e p = some (evB p e) := by
  simp only [impl_isEvent, impl_isDay, impl_in, impl_name _ h.2.2.1, Option.bind_some, evB]
  cases inB e.Day 0 36524 <;> cases inB e.Party 0 (w64 (p - 1)) <;> cases nameB e.Action <;> rfl
theorem findIdx_any {α : Type} {q : α → Bool} (a : List α) : (match a.findIdx? q with | some i => decide ((i : Int) ≥ 0) | none => decide ((-1 : Int) ≥ 0)) = a.any q := by
  cases h : a.findIdx? q with
  | none =>
    have : a.any q = false := by
      rw [List.findIdx?_eq_none_iff] at h
      rw [List.any_eq_false]
      intro x hx
      simp [h x hx]
    rw [this]; rfl
  | some i =>
    have : a.any q = true := by
      rw [List.findIdx?_eq_some_iff_getElem] at h
      obtain ⟨hi, he, _⟩ := h
      rw [List.any_eq_true]
      exact ⟨_, List.getElem_mem hi, he⟩
    rw [this]; simp
theorem impl_bad (a : List Event) (p : Int) (h : smL sm_Event a) : slices_ContainsFunc_impl_Event_impl_Event_w_impl_areEvents_1 a p = some (a.any fun e => !evB p e) := by
  unfold slices_ContainsFunc_impl_Event_impl_Event_w_impl_areEvents_1 slices_IndexFunc_impl_Event_impl_Event_w_impl_areEvents_1
  rw [idxLoop (L := slices_IndexFunc_impl_Event_impl_Event_w_impl_areEvents_1_la a p) (a := a) (p := fun e => impl_areEvents_1 e p) (q := fun e => !evB p e) (fun x hx => by simp only [impl_areEvents_1, impl_ev x p (h.2 x hx), Option.bind_some]) (fun x => by rw [slices_IndexFunc_impl_Event_impl_Event_w_impl_areEvents_1_la_eq, slices_IndexFunc_impl_Event_impl_Event_w_impl_areEvents_1_la_F]) (by have := h.1; omega), ← findIdx_any]
  cases a.findIdx? (fun e => !evB p e) <;> rfl
theorem impl_are (a : List Event) (p : Int) (h : smL sm_Event a) : impl_areEvents a p = some (inB p 2 4 && (decide (a.length ≤ 40) && !(a.any fun e => !evB p e))) := by
  simp only [impl_areEvents, impl_in, impl_bad a p h, Option.bind_some, show decide (len a ≤ 40) = decide (a.length ≤ 40) from by congr 1; apply propext; show (a.length : Int) ≤ 40 ↔ _; omega]
  cases inB p 2 4 <;> cases decide (a.length ≤ 40) <;> rfl

/-! lists of events -/
def adjB (a : List Event) (j : Nat) : Bool := match a[j]?, a[j + 1]? with
  | some x, some y => decide (cmpE x y > 0)
  | _, _ => false
def anyFrom (q : Nat → Bool) : Nat → Nat → Bool
  | _, 0 => false
  | k, n + 1 => q k || anyFrom q (k + 1) n
def anyDown (q : Nat → Bool) : Nat → Bool
  | 0 => false
  | n + 1 => q n || anyDown q n
theorem anyDown_iff {q : Nat → Bool} : ∀ {n : Nat}, anyDown q n = true ↔ ∃ j, j < n ∧ q j = true
  | 0 => by simp [anyDown]
  | n + 1 => by
    rw [anyDown, Bool.or_eq_true, anyDown_iff]
    constructor
    · rintro (h | ⟨j, h1, h2⟩)
      · exact ⟨n, by omega, h⟩
      · exact ⟨j, by omega, h2⟩
    · rintro ⟨j, h1, h2⟩
      by_cases e : j = n
      · subst e; exact .inl h2
      · exact .inr ⟨j, by omega, h2⟩
theorem anyFrom_iff {q : Nat → Bool} : ∀ {n k : Nat}, anyFrom q k n = true ↔ ∃ j, k ≤ j ∧ j < k + n ∧ q j = true
  | 0, k => by
    simp only [anyFrom, Bool.false_eq_true, false_iff]
    rintro ⟨j, h1, h2, _⟩
    omega
  | n + 1, k => by
    rw [anyFrom, Bool.or_eq_true, anyFrom_iff]
    constructor
    · rintro (h | ⟨j, h1, h2, h3⟩)
      · exact ⟨k, by omega, by omega, h⟩
      · exact ⟨j, by omega, by omega, h3⟩
    · rintro ⟨j, h1, h2, h3⟩
      by_cases e : j = k
      · subst e; exact .inl h3
      · exact .inr ⟨j, by omega, by omega, h3⟩
theorem any_same {q : Nat → Bool} {n : Nat} : anyFrom q 0 n = anyDown q n := by
  rw [Bool.eq_iff_iff, anyFrom_iff, anyDown_iff]
  constructor
  · rintro ⟨j, _, h, h2⟩; exact ⟨j, by omega, h2⟩
  · rintro ⟨j, h, h2⟩; exact ⟨j, by omega, by omega, h2⟩
theorem good_step (a : List Event) (p : Int) (i : Nat) (h1 : 1 ≤ i) (h2 : i < a.length) (h3 : i ≤ 40) : spec_l8Good_la a p (i : Int) = bif adjB a (i - 1) then some (.inl false) else spec_l8Good_la a p ((i + 1 : Nat) : Int) := by
  have e1 : decide ((i : Int) < len a) = true := by rw [lt_len]; exact decide_eq_true h2
  have e2 : decide ((i : Int) ≤ 40) = true := decide_eq_true (by omega)
  have e3 : w64 ((i : Int) - 1) = ((i - 1 : Nat) : Int) := by rw [w64_id (by omega) (by omega)]; omega
  rw [spec_l8Good_la_eq, spec_l8Good_la_F, letJ_eq, e1, cond_true, e2, cond_true, e3, getI_nat, getI_nat, List.getElem?_eq_getElem (show i - 1 < a.length by omega), List.getElem?_eq_getElem h2, Option.bind_some, Option.bind_some, spec_cmp, Option.bind_some, w64_succ (by omega)]
  unfold adjB
  rw [List.getElem?_eq_getElem (show i - 1 < a.length by omega), show i - 1 + 1 = i by omega, List.getElem?_eq_getElem h2]
theorem good_stop (a : List Event) (p : Int) (i : Nat) (h : a.length ≤ i ∨ 40 < i) : spec_l8Good_la a p (i : Int) = some (.inr ()) := by
  rw [spec_l8Good_la_eq, spec_l8Good_la_F, letJ_eq, lt_len]
  by_cases h1 : i < a.length
  · rw [decide_eq_true h1, cond_true, decide_eq_false (by omega), cond_false]
  · rw [decide_eq_false h1, cond_false, cond_false]
theorem good_tot (a : List Event) (p : Int) : ∀ (n i : Nat), i + n = 41 → 1 ≤ i → ∃ y, spec_l8Good_la a p (i : Int) = some y ∧ (y = .inl false ∨ y = .inr ())
  | 0, i, hi, h1 => ⟨_, good_stop a p i (.inr (by omega)), .inr rfl⟩
  | n + 1, i, hi, h1 => by
    by_cases h2 : i < a.length
    · rw [good_step a p i h1 h2 (by omega)]
      cases adjB a (i - 1)
      · exact good_tot a p n (i + 1) (by omega) (by omega)
      · exact ⟨_, rfl, .inl rfl⟩
    · exact ⟨_, good_stop a p i (.inl (by omega)), .inr rfl⟩
theorem good_val (a : List Event) (p : Int) (ha : a.length ≤ 40) : ∀ (n i : Nat), i + n = a.length → 1 ≤ i → spec_l8Good_la a p (i : Int) = some (bif anyFrom (adjB a) (i - 1) n then .inl false else .inr ())
  | 0, i, hi, h1 => good_stop a p i (.inl (by omega))
  | n + 1, i, hi, h1 => by
    rw [good_step a p i h1 (by omega) (by omega), good_val a p ha n (i + 1) (by omega) (by omega), anyFrom, show i + 1 - 1 = i - 1 + 1 by omega]
    cases adjB a (i - 1) <;> rfl
theorem valid_tot (a : List Event) (p : Int) (hs : smL sm_Event a) : ∀ (n i : Nat), i + n = 41 → ∃ y, spec_l8Valid_la a p (i : Int) = some y ∧ (y = .inl false ∨ y = .inr ())
  | n, i, hi => by
    rw [spec_l8Valid_la_eq, spec_l8Valid_la_F, letJ_eq, lt_len]
    by_cases h1 : i < a.length
    · rw [decide_eq_true h1, cond_true]
      by_cases h2 : i ≤ 40
      · rw [decide_eq_true (by omega), cond_true, getI_nat, List.getElem?_eq_getElem h1, Option.bind_some, spec_ev _ p (hs.2 _ (List.getElem_mem h1)), Option.bind_some, w64_succ (by omega)]
        cases evB p a[i]
        · exact ⟨_, rfl, .inl rfl⟩
        · match n, hi with
          | n + 1, hi => exact valid_tot a p hs n (i + 1) (by omega)
          | 0, hi => omega
      · rw [decide_eq_false (by omega), cond_false]
        exact ⟨_, rfl, .inr rfl⟩
    · rw [decide_eq_false h1, cond_false, cond_false]
      exact ⟨_, rfl, .inr rfl⟩
theorem valid_val (a : List Event) (p : Int) (hs : smL sm_Event a) (ha : a.length ≤ 40) : spec_l8Valid_la a p 0 = some (bif a.any (fun e => !evB p e) then .inl false else .inr ()) := by
  refine anyLoop (p := fun e => (spec_l8Event e p).bind fun r => some (!r)) (fun x hx => by rw [spec_ev x p (hs.2 x hx)]; rfl) (fun x => ?_) (by omega)
  rw [spec_l8Valid_la_eq, spec_l8Valid_la_F, letJ_eq]
  by_cases h : x < len a
  · have h2 : x ≤ 40 := by
      have : x < (a.length : Int) := h
      omega
    rw [decide_eq_true h, cond_true, cond_true, decide_eq_true h2, cond_true]
    simp only [Option.bind_assoc, Option.bind_some]
  · rw [decide_eq_false h]
    rfl
def validB (a : List Event) (p : Int) : Bool := decide (a.length ≤ 40) && (inB p 2 4 && (!(a.any fun e => !evB p e) && !(anyDown (adjB a) (a.length - 1))))
theorem spec_good (a : List Event) (p : Int) (hs : smL sm_Event a) : spec_l8Good a p = some (validB a p) := by
  unfold spec_l8Good spec_l8Valid validB
  have el : decide (len a ≤ 40) = decide (a.length ≤ 40) := by congr 1; apply propext; show (a.length : Int) ≤ 40 ↔ _; omega
  rw [el]
  by_cases ha : a.length ≤ 40
  · rw [valid_val a p hs ha]
    have hg : spec_l8Good_la a p 1 = some (bif anyDown (adjB a) (a.length - 1) then .inl false else .inr ()) := by
      rw [← any_same]
      cases hl : a.length with
      | zero => exact good_stop a p 1 (.inl (by omega))
      | succ n => exact good_val a p ha n 1 (by omega) (Nat.le_refl _)
    rw [hg, decide_eq_true ha, spec_in]
    simp only [cond_true, Option.bind_some]
    cases anyDown (adjB a) (a.length - 1) <;> cases a.any (fun e => !evB p e) <;> cases inB p 2 4 <;> rfl
  · obtain ⟨y1, e1, q1⟩ := good_tot a p 40 1 rfl (Nat.le_refl _)
    obtain ⟨y2, e2, q2⟩ := valid_tot a p hs 41 0 rfl
    rw [show spec_l8Good_la a p 1 = some y1 from e1, show spec_l8Valid_la a p 0 = some y2 from e2, decide_eq_false ha]
    rcases q1 with rfl | rfl <;> rcases q2 with rfl | rfl <;> rfl
theorem sorted_val (a : List Event) (hs : a.length ≤ 1048576) : ∀ (i : Nat), i < a.length → slices_IsSortedFunc_impl_Event_impl_Event_w_impl_CompareEvents_la a () (i : Int) = some (bif anyDown (adjB a) i then .inl false else .inr ())
  | 0, hi => by
    rw [slices_IsSortedFunc_impl_Event_impl_Event_w_impl_CompareEvents_la_eq, slices_IsSortedFunc_impl_Event_impl_Event_w_impl_CompareEvents_la_F]
    rfl
  | i + 1, hi => by
    have e3 : w64 (((i + 1 : Nat) : Int) - 1) = (i : Int) := by rw [w64_id (by omega) (by omega)]; omega
    rw [slices_IsSortedFunc_impl_Event_impl_Event_w_impl_CompareEvents_la_eq, slices_IsSortedFunc_impl_Event_impl_Event_w_impl_CompareEvents_la_F, decide_eq_true (by omega), cond_true, e3, getI_nat, getI_nat, List.getElem?_eq_getElem hi, List.getElem?_eq_getElem (show i < a.length by omega), Option.bind_some, Option.bind_some, impl_cmp, Option.bind_some, sorted_val a hs i (by omega), anyDown]
    have : adjB a i = decide (cmpE a[i + 1] a[i] < 0) := by
      unfold adjB
      rw [List.getElem?_eq_getElem hi, List.getElem?_eq_getElem (show i < a.length by omega)]
      show decide (cmpE a[i] a[i + 1] > 0) = _
      rw [cmpE_anti a[i] a[i + 1]]
      congr 1
      apply propext
      omega
    rw [this]
    cases decide (cmpE a[i + 1] a[i] < 0) <;> rfl
theorem impl_valid (a : List Event) (p : Int) (hs : smL sm_Event a) : impl_IsValidEvents a p = some (validB a p) := by
  unfold impl_IsValidEvents slices_IsSortedFunc_impl_Event_impl_Event_w_impl_CompareEvents validB
  rw [impl_are a p hs]
  have hg : slices_IsSortedFunc_impl_Event_impl_Event_w_impl_CompareEvents_la a () (w64 (len a - 1)) = some (bif anyDown (adjB a) (a.length - 1) then .inl false else .inr ()) := by
    have hl := hs.1
    cases h : a.length with
    | zero =>
      have : w64 (len a - 1) = -1 := by rw [show len a = 0 from by show (a.length : Int) = 0; omega]; decide
      rw [this, slices_IsSortedFunc_impl_Event_impl_Event_w_impl_CompareEvents_la_eq, slices_IsSortedFunc_impl_Event_impl_Event_w_impl_CompareEvents_la_F]
      rfl
    | succ n =>
      have : w64 (len a - 1) = (n : Int) := by rw [show len a = ((n + 1 : Nat) : Int) from by show (a.length : Int) = _; omega, w64_id (by omega) (by omega)]; omega
      rw [this, sorted_val a hs.1 n (by omega)]
      rfl
  rw [hg]
  simp only [Option.bind_some]
  cases inB p 2 4 <;> cases decide (a.length ≤ 40) <;> cases a.any (fun e => !evB p e) <;> cases anyDown (adjB a) (a.length - 1) <;> rfl
/-! marks -/
theorem markText_loop (k0 : Int) : ∀ (n : Nat) (k : Int) (s : Str), k < ((10 ^ n : Nat) : Int) → k < 9223372036854775808 → s.length + n ≤ 100 → ∃ r, laws_markText_la k0 (k, s) = some (.inr r) ∧ r.length ≤ 100
  | 0, k, s, hk, hb, hs => by
    rw [laws_markText_la_eq, laws_markText_la_F, decide_eq_false (show ¬ k > 0 by simp at hk; omega), cond_false]
    exact ⟨_, rfl, by show s.length ≤ 100; omega⟩
  | n + 1, k, s, hk, hb, hs => by
    rw [laws_markText_la_eq, laws_markText_la_F]
    by_cases h : k > 0
    · rw [decide_eq_true h, cond_true]
      unfold catS
      have h10 : k.tdiv 10 = k / 10 := Int.tdiv_eq_ediv_of_nonneg (by omega)
      rw [if_pos (by simp only [List.length_map, List.length_cons, List.length_nil]; omega), Option.bind_some, h10, w64_id (by omega) (by omega)]
      refine markText_loop k0 n (k / 10) _ ?_ (by omega) (by simp only [List.length_append, List.length_map, List.length_cons, List.length_nil]; omega)
      rw [Nat.pow_succ] at hk
      omega
    · rw [decide_eq_false h, cond_false]
      exact ⟨_, rfl, by show s.length ≤ 100; omega⟩
theorem markText_some (k : Int) (h : k ≤ 4611686018427387904) : ∃ r, laws_markText k = some r := by
  unfold laws_markText
  by_cases h0 : k ≤ 0
  · rw [decide_eq_true h0, cond_true]
    exact ⟨_, rfl⟩
  · rw [decide_eq_false h0, cond_false]
    obtain ⟨r, hr, hl⟩ := markText_loop k 19 k [] (by omega) (by omega) (by decide)
    rw [hr]
    show ∃ r', (catS [109] r).bind (fun s5 => some s5) = some r'
    unfold catS
    rw [if_pos (by simp only [List.length_cons, List.length_nil]; omega), Option.bind_some]
    exact ⟨_, rfl⟩
noncomputable def mkText (k : Int) : Str := (laws_markText k).getD []
theorem markText_eq {k : Int} (h : k ≤ 4611686018427387904) : laws_markText k = some (mkText k) := by
  obtain ⟨r, hr⟩ := markText_some k h
  unfold mkText
  rw [hr]
  rfl
noncomputable def gEvent (k : Int) (e : Event) : Int × Event := (k + 4, ⟨k, k + 1, mkText (k + 2), k + 3⟩)
theorem mark_EventS (a : List Event) (ha : smL sm_Event a) {k : Int} (h0 : 0 ≤ k) (hM : (markL gEvent k a).1 ≤ 4611686018427387904) : laws_markEventS a k = some (markL gEvent k a) := by
  have hl := ha.1
  unfold laws_markEventS
  rw [markLoop (L := laws_markEventS_la a k) (g := gEvent) (M := 4611686018427387904) (fun k x => by show k ≤ k + 4; omega) ?_ ?_ h0 hM (by omega)]
  · show (bif Nat.beq (markL gEvent k a).2.length a.length then some ((markL gEvent k a).1, (markL gEvent k a).2) else none) = _
    rw [markL_len, Nat.beq_refl]
    rfl
  · intro k i xs e h0 h1 hi he
    have h1' : k + 4 ≤ 4611686018427387904 := h1
    obtain ⟨hi', _⟩ := List.getElem?_eq_some_iff.1 he
    have w1 : w64 (k + 1) = k + 1 := w64_id (by omega) (by omega)
    have w2 : w64 (k + 1 + 1) = k + 2 := by rw [w64_id (by omega) (by omega)]; omega
    have w3 : w64 (k + 2 + 1) = k + 3 := by rw [w64_id (by omega) (by omega)]; omega
    have w4 : w64 (k + 3 + 1) = k + 4 := by rw [w64_id (by omega) (by omega)]; omega
    rw [laws_markEventS_la_eq, laws_markEventS_la_F, lt_len, decide_eq_true hi', cond_true]
    simp only [getI_nat, setI_nat, he, Option.bind_some, w1, w2, w3, w4, markText_eq (show k + 2 ≤ 4611686018427387904 by omega), List.getElem?_set_self, List.length_set, hi', List.set_set, w64_succ (show i < 9223372036854775807 by omega)]
    rfl
  · intro k i xs hi
    rw [laws_markEventS_la_eq, laws_markEventS_la_F, lt_len, decide_eq_false (show ¬ i < xs.length by omega), cond_false]
theorem markE_le (a : List Event) (ha : a.length ≤ 1048576) : 1 ≤ (markL gEvent 1 a).1 ∧ (markL gEvent 1 a).1 ≤ 4611686018427387904 := by
  have h1 := markL_mono (g := gEvent) (fun k x => by show k ≤ k + 4; omega) (xs := a) (k := 1)
  have h2 := markL_le (g := gEvent) (c := 4) (fun k x => by show k + 4 ≤ k + (4 : Nat); omega) (xs := a) (k := 1)
  omega
theorem appI_one {α : Type} {b : Nat} {xs : List α} {y : α} (h : (xs.length + 1) * b ≤ 1099511627776) (h2 : xs.length + 1 ≤ 1099511627776) : appI b xs [y] = some (xs ++ [y]) := by
  unfold appI
  rw [if_pos]
  simp only [List.length_cons, List.length_nil, lim, Nat.zero_add]
  omega
theorem len_le1 {α β : Type} {f : α → List β} (hf : ∀ x, (f x).length ≤ 1) : ∀ (xs : List α), (xs.flatMap f).length ≤ xs.length
  | [] => by simp
  | x :: xs => by
    have h1 := hf x
    have h2 := len_le1 hf xs
    rw [List.flatMap_cons, List.length_append, List.length_cons]
    omega
theorem flatMap_filter' {α : Type} {p : α → Bool} : ∀ (xs : List α), (xs.flatMap fun x => bif p x then [x] else []) = xs.filter p
  | [] => rfl
  | x :: xs => by
    rw [List.flatMap_cons, flatMap_filter' xs, List.filter_cons]
    cases p x <;> rfl
theorem take_len {α : Type} {xs : List α} {n : Nat} : (xs.take n).length ≤ n := by rw [List.length_take]; omega
/-! the days of events -/
noncomputable def gInt (k : Int) (e : Int) : Int × Int := (k + 1, k)
theorem mark_IntS (a : List Int) (ha : a.length ≤ 1048576) {k : Int} (h0 : 0 ≤ k) (hM : (markL gInt k a).1 ≤ 4611686018427387904) : laws_markIntS a k = some (markL gInt k a) := by
  unfold laws_markIntS
  rw [markLoop (L := laws_markIntS_la a k) (g := gInt) (M := 4611686018427387904) (fun k x => by show k ≤ k + 1; omega) ?_ ?_ h0 hM (by omega)]
  · show (bif Nat.beq (markL gInt k a).2.length a.length then some ((markL gInt k a).1, (markL gInt k a).2) else none) = _
    rw [markL_len, Nat.beq_refl]
    rfl
  · intro k i xs e h0 h1 hi he
    have h1' : k + 1 ≤ 4611686018427387904 := h1
    obtain ⟨hi', _⟩ := List.getElem?_eq_some_iff.1 he
    have w1 : w64 (k + 1) = k + 1 := w64_id (by omega) (by omega)
    rw [laws_markIntS_la_eq, laws_markIntS_la_F, lt_len, decide_eq_true hi', cond_true]
    simp only [getI_nat, setI_nat, he, Option.bind_some, w1, List.getElem?_set_self, List.length_set, hi', List.set_set, w64_succ (show i < 9223372036854775807 by omega)]
    rfl
  · intro k i xs hi
    rw [laws_markIntS_la_eq, laws_markIntS_la_F, lt_len, decide_eq_false (show ¬ i < xs.length by omega), cond_false]
theorem held_IntS (a : List Int) (ha : a.length ≤ 1048576) {k : Int} (h0 : 0 ≤ k) (hM : (markL gInt k a).1 ≤ 4611686018427387904) : laws_heldIntS (markL gInt k a).2 k = some (markL gInt k a).1 := by
  unfold laws_heldIntS
  rw [heldLoop (H := laws_heldIntS_la (markL gInt k a).2 k) (g := gInt) (M := 4611686018427387904) (a := (markL gInt k a).2) (xs := a) (fun k x => by show k ≤ k + 1; omega) ?_ ?_ h0 hM (by omega) rfl]
  · rfl
  · intro k' i e h0 h1 hi he
    have h1' : k' + 1 ≤ 4611686018427387904 := h1
    obtain ⟨hi', _⟩ := List.getElem?_eq_some_iff.1 he
    have w1 : w64 (k' + 1) = k' + 1 := w64_id (by omega) (by omega)
    rw [laws_heldIntS_la_eq, laws_heldIntS_la_F, lt_len, decide_eq_true hi', cond_true]
    simp only [getI_nat, he, Option.bind_some, w1, w64_succ (show i < 9223372036854775807 by omega), gInt, bne_self_eq_false, beq_self_eq_true, Bool.not_true, cond_false]
  · intro k' i hi
    rw [laws_heldIntS_la_eq, laws_heldIntS_la_F, lt_len, decide_eq_false (by omega), cond_false]
theorem markI_le (a : List Int) (ha : a.length ≤ 1048576) : 1 ≤ (markL gInt 1 a).1 ∧ (markL gInt 1 a).1 ≤ 4611686018427387904 := by
  have h1 := markL_mono (g := gInt) (fun k x => by show k ≤ k + 1; omega) (xs := a) (k := 1)
  have h2 := markL_le (g := gInt) (c := 1) (fun k x => by show k + 1 ≤ k + (1 : Nat); omega) (xs := a) (k := 1)
  omega
/-- A list without repeated neighbours: an element that is the one before it is left out. -/
def ddKeep (a : List Int) (j : Nat) : Bool := match j with
  | 0 => true
  | j + 1 => match a[j]?, a[j + 1]? with
    | some x, some y => y != x
    | _, _ => true
def dd (a : List Int) : List Int := kept (ddKeep a) a a.length
theorem dd_none {a : List Int} (h : ∀ j x y, a[j]? = some x → a[j + 1]? = some y → y ≠ x) {n : Nat} (hn : n ≤ a.length) : kept (ddKeep a) a n = a.take n := by
  rw [kept_filter (p := fun _ => true) (fun j x hx => ?_) hn, List.filter_eq_self.2 (fun _ _ => rfl)]
  cases j with
  | zero => rfl
  | succ j =>
    obtain ⟨h1, _⟩ := List.getElem?_eq_some_iff.1 hx
    have h2 := List.getElem?_eq_getElem (show j < a.length by omega)
    simp only [ddKeep, h2, hx]
    simpa using h j _ _ h2 hx
theorem dd_upto {a : List Int} {k : Nat} (h : ∀ j x y, j + 1 < k → a[j]? = some x → a[j + 1]? = some y → y ≠ x) (hn : k ≤ a.length) : kept (ddKeep a) a k = a.take k := by
  have e : ∀ n, n ≤ k → kept (ddKeep a) a n = a.take n := by
    intro n
    induction n with
    | zero => intro _; rfl
    | succ n ih =>
      intro hk
      have h1 : n < a.length := by omega
      have hx := List.getElem?_eq_getElem h1
      rw [kept_yes ?_ hx, ih (by omega), List.take_add_one, hx]
      · rfl
      · cases n with
        | zero => rfl
        | succ n =>
          have h2 := List.getElem?_eq_getElem (show n < a.length by omega)
          simp only [ddKeep, h2, hx]
          simpa using h n _ _ (by omega) h2 hx
  exact e k (Nat.le_refl k)
theorem getP_at {s z : List Int} {x j : Nat} (h1 : x ≤ j) (h2 : j < s.length) : getP z (0 + Int.toNat (x : Int)) (Int.toNat (len s) - Int.toNat (x : Int)) ((j : Int) - (x : Int)) = z[j]? := by
  unfold getP
  simp only [len, Int.toNat_natCast, Nat.zero_add]
  rw [if_pos (by omega), show x + ((j : Int) - (x : Int)).toNat = j by omega]
theorem compact_rest (s : List Int) (x : Nat) (hl : s.length ≤ 1048576) (hx : x < s.length) (h0 : kept (ddKeep s) s (x + 1) = s.take x) : ∃ (i : Nat) (z : List Int), slices_Compact_int_int_lb s (x : Int) ((x : Int), 1, s) = some (.inr ((i : Int), z)) ∧ z.length = s.length ∧ i ≤ z.length ∧ z.take i = dd s := by
  have hD := delLoop (L := fun q : Int × Int × List Int => slices_Compact_int_int_lb s (x : Int) (q.1, q.2.1 - (x : Int), q.2.2)) (keep := ddKeep s) (a := s) (i0 := x)
    (by
      intro i j z y hz hi hij hy hy2 hy3
      obtain ⟨h1, _⟩ := List.getElem?_eq_some_iff.1 hy
      have h2 := List.getElem?_eq_getElem (show j - 1 < s.length by omega)
      have h4 := List.getElem?_eq_getElem (show i < z.length by omega)
      show slices_Compact_int_int_lb s (x : Int) ((i : Int), (j : Int) - (x : Int), z) = bif ddKeep s j then slices_Compact_int_int_lb s (x : Int) (((i + 1 : Nat) : Int), ((j + 1 : Nat) : Int) - (x : Int), z.set i y) else slices_Compact_int_int_lb s (x : Int) ((i : Int), ((j + 1 : Nat) : Int) - (x : Int), z)
      have w1 : w64 ((j : Int) - (x : Int) - 1) = ((j - 1 : Nat) : Int) - (x : Int) := by rw [w64_id (by omega) (by omega)]; omega
      have w2 : w64 ((j : Int) - (x : Int) + 1) = ((j + 1 : Nat) : Int) - (x : Int) := by rw [w64_id (by omega) (by omega)]; omega
      have c1 : decide ((j : Int) - (x : Int) < (((Int.toNat (len s) - Int.toNat (x : Int)) : Nat) : Int)) = true := decide_eq_true (by simp only [len, Int.toNat_natCast]; omega)
      rw [slices_Compact_int_int_lb_eq, slices_Compact_int_int_lb_F]
      simp only [c1, cond_true, w1, w2, getP_at (show x ≤ j by omega) h1, getP_at (show x ≤ j - 1 by omega) (show j - 1 < s.length by omega), hy2, hy3, h2, Option.bind_some, getI_nat, setI_nat, h4, w64_succ (show i < 9223372036854775807 by omega)]
      have hk : ddKeep s j = (y != s[j - 1]) := by
        cases j with
        | zero => omega
        | succ j =>
          simp only [ddKeep, hy, show j + 1 - 1 = j by omega] at h2 ⊢
          simp only [h2]
      rw [hk]
      cases y != s[j - 1] <;> rfl)
    (by
      intro i j z hz hi hij hj
      show slices_Compact_int_int_lb s (x : Int) ((i : Int), (j : Int) - (x : Int), z) = _
      have c1 : decide ((j : Int) - (x : Int) < (((Int.toNat (len s) - Int.toNat (x : Int)) : Nat) : Int)) = false := decide_eq_false (by simp only [len, Int.toNat_natCast]; omega)
      rw [slices_Compact_int_int_lb_eq, slices_Compact_int_int_lb_F]
      simp only [c1, cond_false])
    h0 hx
  simp only [show ((x + 1 : Nat) : Int) - (x : Int) = 1 by omega] at hD
  exact hD
theorem compact_loop (s : List Int) (hl : s.length ≤ 1048576) : ∀ (n k : Nat), k + n = s.length → 1 ≤ k → (∀ j x y, j + 1 < k → s[j]? = some x → s[j + 1]? = some y → y ≠ x) → ∃ y, slices_Compact_int_int_la s (k : Int) = some y ∧ (y = .inl (dd s) ∨ y = .inr (dd s))
  | 0, k, hk, h1, h => by
    refine ⟨.inr s, ?_, .inr ?_⟩
    · rw [slices_Compact_int_int_la_eq, slices_Compact_int_int_la_F, lt_len, decide_eq_false (by omega), cond_false]
    · unfold dd
      rw [dd_upto (k := s.length) (fun j x y hj => h j x y (by omega)) (Nat.le_refl _), List.take_length]
  | n + 1, k, hk, h1, h => by
    have h2 : k < s.length := by omega
    have e1 := List.getElem?_eq_getElem h2
    have e2 := List.getElem?_eq_getElem (show k - 1 < s.length by omega)
    have w1 : w64 ((k : Int) - 1) = ((k - 1 : Nat) : Int) := by rw [w64_id (by omega) (by omega)]; omega
    rw [slices_Compact_int_int_la_eq, slices_Compact_int_int_la_F, lt_len, decide_eq_true h2, cond_true, w1, getI_nat, getI_nat, e1, e2, Option.bind_some, Option.bind_some, w64_succ (by omega)]
    by_cases hq : s[k] = s[k - 1]
    · rw [beq_iff_eq.2 hq, cond_true]
      have e3 : subP s.length (k : Int) (len s) = some () := by unfold subP; rw [if_pos (by simp only [len]; omega)]
      have hno : ddKeep s k = false := by
        cases k with
        | zero => omega
        | succ k =>
          simp only [show k + 1 - 1 = k by omega] at e2 hq
          simp only [ddKeep, e1, e2, hq, bne_self_eq_false]
      obtain ⟨i, z, e, hz, hi, ht⟩ := compact_rest s k hl h2 (by rw [kept_no hno, dd_upto h (by omega)])
      rw [e3, Option.bind_some, e, bindL_inr]
      refine ⟨.inl (dd s), ?_, .inl rfl⟩
      rw [← ht]
      exact cutL (c := (0 : Int)) (F := fun p19 => some (Sum.inl p19)) hi
    · rw [beq_eq_false_iff_ne.2 hq, cond_false]
      refine compact_loop s hl n (k + 1) (by omega) (by omega) fun j x y hj hx hy => ?_
      by_cases hj2 : j + 1 < k
      · exact h j x y hj2 hx hy
      · obtain rfl : k = j + 1 := by omega
        simp only [show j + 1 - 1 = j by omega] at e2 hq
        rw [e2] at hx
        rw [e1] at hy
        cases hx
        cases hy
        exact hq
theorem compact_val (s : List Int) (hl : s.length ≤ 1048576) : slices_Compact_int_int s = some (dd s) := by
  unfold slices_Compact_int_int
  by_cases h : len s < 2
  · rw [decide_eq_true h, cond_true]
    have h' : s.length < 2 := by simp only [len] at h; omega
    unfold dd
    rw [dd_upto (k := s.length) (fun j x y hj => by omega) (Nat.le_refl _), List.take_length]
  · rw [decide_eq_false h, cond_false]
    have h' : ¬ s.length < 2 := by simp only [len] at h; omega
    obtain ⟨y, hy, hq⟩ := compact_loop s hl (s.length - 1) 1 (by omega) (Nat.le_refl _) (fun j x y hj => by omega)
    rw [show slices_Compact_int_int_la s 1 = some y from hy]
    rcases hq with rfl | rfl <;> rfl
/-! put into a sorted list -/
theorem put_loop (l : List Int) (n : Int) (m : Nat) (hm : m ≤ l.length) (hl : l.length ≤ 1048576) (h1 : ∀ (j : Nat) x, j < m → l[j]? = some x → x < n) (h2 : ∀ x, l[m]? = some x → ¬ x < n) : ∀ (k j : Nat), j + k = m → spec_l1Put_la l n (j : Int) = some (.inr (n, (m : Int), l))
  | 0, j, hj => by
    obtain rfl : j = m := by omega
    rw [spec_l1Put_la_eq, spec_l1Put_la_F, lt_len]
    by_cases h : j < l.length
    · rw [decide_eq_true h, cond_true, getI_nat, List.getElem?_eq_getElem h, Option.bind_some, bindL_inr, decide_eq_false (h2 _ (List.getElem?_eq_getElem h)), cond_false]
    · rw [decide_eq_false h, cond_false, bindL_inr, cond_false]
  | k + 1, j, hj => by
    have h : j < l.length := by omega
    rw [spec_l1Put_la_eq, spec_l1Put_la_F, lt_len, decide_eq_true h, cond_true, getI_nat, List.getElem?_eq_getElem h, Option.bind_some, bindL_inr, decide_eq_true (h1 j _ (by omega) (List.getElem?_eq_getElem h)), cond_true, w64_succ (by omega)]
    exact put_loop l n m hm hl h1 h2 k (j + 1) (by omega)
theorem put_new (l : List Int) (n : Int) (hl : l.length ≤ 1048576) (h : ∀ x ∈ l, x < n) : spec_l1Put l n = some (l ++ [n]) := by
  unfold spec_l1Put
  rw [show spec_l1Put_la l n 0 = some (.inr (n, (l.length : Int), l)) from put_loop l n l.length (Nat.le_refl _) hl (fun j x _ hx => h x (List.mem_of_getElem? hx)) (fun x hx => by simp at hx) l.length 0 (by omega)]
  have a1 : appI 8 ([] : List Int) l = some l := by unfold appI; rw [if_pos (by simp only [List.length_nil, lim]; omega)]; rfl
  have a2 : appI 8 l [n] = some (l ++ [n]) := appI_one (by omega) (by omega)
  have a3 : appI 8 (l ++ [n]) ([] : List Int) = some (l ++ [n]) := by unfold appI; rw [if_pos (by simp only [List.length_append, List.length_cons, List.length_nil, lim]; omega), List.append_nil]
  have s1 : subP l.length 0 (l.length : Int) = some () := by unfold subP; rw [if_pos (by omega)]
  have s2 : subP l.length (l.length : Int) (len l) = some () := by unfold subP; rw [if_pos (by simp only [len]; omega)]
  have p1 : partP l (0 + Int.toNat 0) (Int.toNat (l.length : Int) - Int.toNat 0) = some l := by
    unfold partP
    simp only [Int.toNat_zero, Int.toNat_natCast, Nat.zero_add, Nat.sub_zero, List.drop_zero]
    rw [if_pos (Nat.le_refl _), List.take_length]
  have p2 : partP l (0 + Int.toNat (l.length : Int)) (Int.toNat (len l) - Int.toNat (l.length : Int)) = some [] := by
    unfold partP
    simp only [Int.toNat_natCast, Nat.zero_add, len, Nat.sub_self, List.take_zero]
    rw [if_pos (by omega)]
  simp only [bindJ_inr, lt_len, decide_eq_false (show ¬ l.length < l.length by omega), cond_false, s1, p1, a1, a2, s2, p2, a3, Option.bind_some, Nat.beq_refl, cond_true]
theorem put_old (l : List Int) (n : Int) (hl : l.length + 1 ≤ 1048576) (h : ∀ x ∈ l, x < n) : spec_l1Put (l ++ [n]) n = some (l ++ [n]) := by
  unfold spec_l1Put
  rw [show spec_l1Put_la (l ++ [n]) n 0 = some (.inr (n, (l.length : Int), l ++ [n])) from put_loop (l ++ [n]) n l.length (by simp) (by simpa using hl) (fun j x hj hx => h x (by rw [List.getElem?_append_left hj] at hx; exact List.mem_of_getElem? hx)) (fun x hx => by simp at hx; omega) l.length 0 (by omega)]
  have e : (l ++ [n])[l.length]? = some n := by simp
  simp only [bindJ_inr, lt_len, decide_eq_true (show l.length < (l ++ [n]).length by simp), cond_true, getI_nat, e, Option.bind_some, beq_self_eq_true]
/-! the days of a sorted list -/
theorem day_le {a b : Event} (h : ¬ cmpE a b > 0) : a.Day ≤ b.Day := by
  unfold cmpE at h
  by_cases h1 : a.Day = b.Day
  · omega
  · rw [if_neg h1] at h
    by_cases h2 : a.Day < b.Day
    · omega
    · rw [if_neg h2] at h
      exact absurd (by decide) h
theorem sorted_days {a : List Event} {p : Int} (hv : validB a p = true) (j : Nat) (hj : j + 1 < a.length) : a[j].Day ≤ a[j + 1].Day := by
  unfold validB at hv
  simp only [Bool.and_eq_true, Bool.not_eq_true'] at hv
  have hd := hv.2.2.2
  refine day_le fun h => ?_
  have : anyDown (adjB a) (a.length - 1) = true := anyDown_iff.2 ⟨j, by omega, by
    unfold adjB
    rw [List.getElem?_eq_getElem hj, List.getElem?_eq_getElem (show j < a.length by omega)]
    exact decide_eq_true h⟩
  rw [this] at hd
  cases hd
theorem kept_le {a : List Int} {keep : Nat → Bool} : ∀ {n : Nat}, (kept keep a n).length ≤ n
  | 0 => Nat.le_refl _
  | n + 1 => by
    unfold kept
    exact Nat.le_trans (List.length_filterMap_le _ _) (by simp)
theorem spec_days (a : List Event) (p q : Int) (hl : a.length ≤ 1048576) (hv : validB a q = true) : spec_EventDays_la a p (0, []) = some (.inr (dd (a.map (·.Day)))) := by
  have key : ∀ (k i : Nat), i + k = a.length → (1 ≤ i → ∃ l d, kept (ddKeep (a.map (·.Day))) (a.map (·.Day)) i = l ++ [d] ∧ (a.map (·.Day))[i - 1]? = some d ∧ ∀ x ∈ l, x < d) → spec_EventDays_la a p ((i : Int), kept (ddKeep (a.map (·.Day))) (a.map (·.Day)) i) = some (.inr (dd (a.map (·.Day)))) := by
    intro k
    induction k with
    | zero =>
      intro i hi _
      rw [spec_EventDays_la_eq, spec_EventDays_la_F, lt_len, decide_eq_false (by omega), cond_false]
      unfold dd
      rw [List.length_map, show a.length = i by omega]
    | succ k ih =>
      intro i hi hI
      have h1 : i < a.length := by omega
      have hx : (a.map (·.Day))[i]? = some a[i].Day := by rw [List.getElem?_map, List.getElem?_eq_getElem h1]; rfl
      have hl2 := kept_le (a := a.map (·.Day)) (keep := ddKeep (a.map (·.Day))) (n := i)
      rw [spec_EventDays_la_eq, spec_EventDays_la_F, lt_len, decide_eq_true h1, cond_true, getI_nat, List.getElem?_eq_getElem h1, Option.bind_some]
      have step : spec_l1Put (kept (ddKeep (a.map (·.Day))) (a.map (·.Day)) i) a[i].Day = some (kept (ddKeep (a.map (·.Day))) (a.map (·.Day)) (i + 1)) ∧ ∃ l d, kept (ddKeep (a.map (·.Day))) (a.map (·.Day)) (i + 1) = l ++ [d] ∧ (a.map (·.Day))[i]? = some d ∧ ∀ x ∈ l, x < d := by
        cases i with
        | zero =>
          rw [kept_yes (show ddKeep (a.map (·.Day)) 0 = true from rfl) hx]
          exact ⟨put_new [] _ (by simp) (by simp), _, _, rfl, hx, by simp [kept]⟩
        | succ i =>
          obtain ⟨l, d, e1, e2, e3⟩ := hI (by omega)
          have h2 := List.getElem?_eq_getElem (show i < a.length by omega)
          have e2' : (a.map (·.Day))[i]? = some a[i].Day := by rw [List.getElem?_map, h2]; rfl
          rw [show i + 1 - 1 = i by omega, e2'] at e2
          obtain rfl := Option.some.inj e2
          have hd := sorted_days hv i h1
          by_cases hq : a[i + 1].Day = a[i].Day
          · rw [kept_no (n := i + 1) (by simp only [ddKeep, e2', hx, hq, bne_self_eq_false]), e1, hq]
            rw [e1] at hl2
            exact ⟨put_old l _ (by simp at hl2; omega) e3, l, _, rfl, by rw [hx, hq], e3⟩
          · rw [kept_yes (n := i + 1) (by simp only [ddKeep, e2', hx]; exact bne_iff_ne.2 hq) hx]
            have hall : ∀ x ∈ kept (ddKeep (a.map (·.Day))) (a.map (·.Day)) (i + 1), x < a[i + 1].Day := by
              intro x hx
              rw [e1, List.mem_append, List.mem_singleton] at hx
              rcases hx with hx | rfl
              · have := e3 x hx; omega
              · omega
            exact ⟨put_new _ _ (by omega) hall, _, _, rfl, hx, hall⟩
      rw [step.1, Option.bind_some, w64_succ (by omega)]
      exact ih (i + 1) (by omega) fun _ => step.2
  exact key a.length 0 (by omega) (by omega)
theorem impl_days (a : List Event) (p : Int) (hl : a.length ≤ 1048576) : impl_EventDays_la a p (0, []) = some (.inr (a.map (·.Day))) := by
  have : a.map (·.Day) = a.flatMap fun x => [x.Day] := by rw [← List.map_eq_flatMap]
  rw [this]
  refine pushLoop (fun i x hx => ?_) (fun i z hi => ?_)
  · obtain ⟨h1, _⟩ := List.getElem?_eq_some_iff.1 hx
    have hl : ((a.take i).flatMap fun x => [x.Day]).length = i := by rw [← List.map_eq_flatMap, List.length_map, List.length_take]; omega
    rw [impl_EventDays_la_eq, impl_EventDays_la_F, lt_len, decide_eq_true h1, cond_true, getI_nat, hx, Option.bind_some, appI_one (by rw [hl]; omega) (by rw [hl]; omega), Option.bind_some, w64_succ (by omega)]
  · rw [impl_EventDays_la_eq, impl_EventDays_la_F, lt_len, decide_eq_false (show ¬ i < a.length by omega), cond_false]
theorem law_FnExactEventDays (a : List Event) (ha : okL ok_Event a) (p : Int) (hp : I64 p) : laws_FnExactEventDays a p = some true := by
  unfold laws_FnExactEventDays
  obtain ⟨r1, e1, q1⟩ := sz_EventS a ha (l := 1048576) (by decide) (by decide)
  rw [e1, Option.bind_some]
  rcases q1 with q1 | ⟨q1, p1, s1⟩
  · rw [decide_eq_true q1, cond_true]
  rw [decide_eq_false (by omega), cond_false]
  obtain ⟨v, h1, h2, s3⟩ : ∃ v, spec_EventDays a p = some v ∧ impl_EventDays a p = some v ∧ smL smI v.1 := by
    unfold spec_EventDays impl_EventDays
    rw [spec_good a p s1, impl_valid a p s1, Option.bind_some, Option.bind_some]
    cases hv : validB a p
    · exact ⟨_, rfl, rfl, by simp [smL]⟩
    · rw [spec_days a p p s1.1 hv, impl_days a p s1.1]
      simp only [Bool.not_true, cond_false, Option.bind_some, bindJ_inr, compact_val (a.map (·.Day)) (by simpa using s1.1)]
      exact ⟨_, rfl, rfl, Nat.le_trans kept_le (by simpa using s1.1), fun _ _ => trivial⟩
  obtain ⟨m1, m2⟩ := markE_le a s1.1
  obtain ⟨m3, m4⟩ := markI_le v.1 s3.1
  simp only [to_EventS a s1, Option.bind_some, h1, h2, eq_EventS a s1, eq_IntS v.1 s3, letJ_eq, bne_self_eq_false, beq_self_eq_true, Bool.not_true, cond_false, mark_EventS a s1 (by decide) m2, mark_IntS v.1 s3.1 (by decide) m4, held_IntS v.1 s3.1 (by decide) m4, markL_len, Nat.beq_refl, cond_true, decide_eq_false (show ¬ (markL gEvent 1 a).1 < 0 by omega), decide_eq_false (show ¬ (markL gInt 1 v.1).1 < 0 by omega), bindJ]
end Go.Ln
