/-
  What each function of the law computes, as a plain function.
-/
import Derived.Test.YtgcnameabpnpaaaDoorLnE
set_option linter.unusedVariables false
set_option linter.unusedSimpArgs false
namespace Go.Ln
open Go
structure Event where
  Day : Int
  Party : Int
  Action : Str
  Amount : Int
def enc_Event (x : Event) : V := .agg [I (x.Day), I (x.Party), str (x.Action), I (x.Amount)]
theorem enc_Event_cells (x : Event) : (cells (enc_Event x)).length = 4 ∧ (cells (enc_Event x)).all cellV = true := ⟨rfl, rfl⟩
theorem enc_Event_imm (x : Event) : imm (enc_Event x) = enc_Event x := rfl
theorem enc_Event_himm (x : Event) : hasImm (enc_Event x) = false := rfl
theorem enc_Event_flat (x : Event) : flatE (enc_Event x) = true := rfl
theorem enc_Event_inj (a b : Event) (h : enc_Event a = enc_Event b) : a = b := by
  obtain ⟨p0, p1, p2, p3⟩ := a
  obtain ⟨q0, q1, q2, q3⟩ := b
  replace h := V.agg.inj h
  obtain ⟨h0, h⟩ := List.cons.inj h
  obtain rfl := I_inj p0 q0 h0
  obtain ⟨h1, h⟩ := List.cons.inj h
  obtain rfl := I_inj p1 q1 h1
  obtain ⟨h2, h⟩ := List.cons.inj h
  obtain rfl := str_inj p2 q2 h2
  obtain ⟨h3, h⟩ := List.cons.inj h
  obtain rfl := I_inj p3 q3 h3
  rfl
def ok_Event (x : Event) : Prop := I64 x.Day ∧ I64 x.Party ∧ okS x.Action ∧ I64 x.Amount
noncomputable def laws_szEvent (a_1 : Event) (left_2 : Int) : Option Int :=
  bif (decide ((w64 (left_2 - (len a_1.Action))) < 0)) then (some (-1)) else (some (w64 (left_2 - (len a_1.Action))))
noncomputable def laws_szEventS_la_F (a_1 : List Event) (left_2 : Int)  (self : (Int × Int) → Option (Int ⊕ Int)) (x3 : Int × Int) : Option (Int ⊕ Int) :=
  bif (decide (x3.2 < (len a_1))) then ((getI a_1 x3.2).bind fun e4 => (laws_szEvent e4 x3.1).bind fun r5 => bif (decide (r5 < 0)) then (some (.inl (-1))) else (self (r5, (w64 (x3.2 + 1))))) else (some (.inr x3.1))
noncomputable def laws_szEventS_la (a_1 : List Event) (left_2 : Int)  : (Int × Int) → Option (Int ⊕ Int) := fixO (laws_szEventS_la_F a_1 left_2)
theorem laws_szEventS_la_fin (a_1 : List Event) (left_2 : Int)  : ∀ a, Fin1 fun f => laws_szEventS_la_F a_1 left_2 f a := by
  intro a
  unfold laws_szEventS_la_F
  repeat first | exact f_const | exact f_self | refine f_cond ?_ ?_ | refine f_bindJ ?_ (fun _ => ?_) | refine f_bindL ?_ (fun _ => ?_) | refine f_bind ?_ (fun _ => ?_) | refine f_letJ (fun _ => ?_)
theorem laws_szEventS_la_eq (a_1 : List Event) (left_2 : Int)  (x : Int × Int) : laws_szEventS_la a_1 left_2 x = laws_szEventS_la_F a_1 left_2 (laws_szEventS_la a_1 left_2) x := fix_eq (laws_szEventS_la_fin a_1 left_2) x
noncomputable def laws_szEventS (a_1 : List Event) (left_2 : Int) : Option Int :=
  bif (decide ((w64 (left_2 - (len a_1))) < 0)) then (some (-1)) else (bindJ (ρ := Int) (laws_szEventS_la a_1 left_2 ((w64 (left_2 - (len a_1))), 0)) fun u6 : Int => some u6)
noncomputable def laws_toEvent (a_1 : Event) : Option Event :=
  some a_1
noncomputable def laws_toEventS_la_F (a_1 : List Event)  (self : (Int × (List Event)) → Option (((List Event)) ⊕ ((List Event)))) (x3 : Int × (List Event)) : Option (((List Event)) ⊕ ((List Event))) :=
  bif (decide (x3.1 < (len a_1))) then ((getI a_1 x3.1).bind fun e4 => (laws_toEvent e4).bind fun r5 => (getI x3.2 x3.1).bind fun e6 => self ((w64 (x3.1 + 1)), (setI x3.2 x3.1 r5))) else (some (.inr x3.2))
noncomputable def laws_toEventS_la (a_1 : List Event)  : (Int × (List Event)) → Option (((List Event)) ⊕ ((List Event))) := fixO (laws_toEventS_la_F a_1)
theorem laws_toEventS_la_fin (a_1 : List Event)  : ∀ a, Fin1 fun f => laws_toEventS_la_F a_1 f a := by
  intro a
  unfold laws_toEventS_la_F
  repeat first | exact f_const | exact f_self | refine f_cond ?_ ?_ | refine f_bindJ ?_ (fun _ => ?_) | refine f_bindL ?_ (fun _ => ?_) | refine f_bind ?_ (fun _ => ?_) | refine f_letJ (fun _ => ?_)
theorem laws_toEventS_la_eq (a_1 : List Event)  (x : Int × (List Event)) : laws_toEventS_la a_1 x = laws_toEventS_la_F a_1 (laws_toEventS_la a_1) x := fix_eq (laws_toEventS_la_fin a_1) x
noncomputable def laws_toEventS (a_1 : List Event) : Option ((List Event)) :=
  (mkI 40 (Event.mk 0 0 [] 0) (len a_1)).bind fun m2 => bindJ (ρ := (List Event)) (laws_toEventS_la a_1 (0, m2)) fun u7 : (List Event) => some u7
noncomputable def spec_l8Compare (a_1 : Event) (b_2 : Event) : Option Int :=
  bindJ (ρ := Int) (bif (a_1.Day != b_2.Day) then (some (.inr (a_1.Day, b_2.Day))) else (bindL (ρ := Int) (bif (a_1.Party != b_2.Party) then (some (.inr (a_1.Party, b_2.Party))) else (bif (Op.bytesLess a_1.Action b_2.Action) then (some (.inl (-1))) else (bif (!(Op.bytesLess a_1.Action b_2.Action || a_1.Action == b_2.Action)) then (some (.inl 1)) else (some (.inr (a_1.Amount, b_2.Amount)))))) fun u4 : Int × Int => some (.inr (u4.1, u4.2)))) fun u3 : Int × Int => bif (decide (u3.1 < u3.2)) then (some (-1)) else (bif (decide (u3.1 > u3.2)) then (some 1) else (some 0))
noncomputable def spec_l1In (x_1 : Int) (a_2 : Int) (b_3 : Int) : Option Bool :=
  letJ (bif (decide (x_1 ≥ a_2)) then ((decide (x_1 ≤ b_3))) else (false)) fun u4 : Bool => some u4
noncomputable def spec_l3Good (day_1 : Int) : Option Bool :=
  (spec_l1In day_1 0 36524).bind fun r2 => some r2
noncomputable def spec_l5Sign (b_1 : Int) : Option Bool :=
  letJ (bif (decide (b_1 ≥ 97)) then (letJ (bif (decide (b_1 ≤ 122)) then (true) else (letJ (bif (decide (b_1 ≥ 48)) then ((decide (b_1 ≤ 57))) else (false)) fun u4 : Bool => u4)) fun u3 : Bool => u3) else (letJ (bif (decide (b_1 ≥ 48)) then ((decide (b_1 ≤ 57))) else (false)) fun u5 : Bool => u5)) fun u2 : Bool => some u2
noncomputable def spec_l5Name_la_F (s_1 : Str)  (self : Int → Option (Bool ⊕ Unit)) (x4 : Int) : Option (Bool ⊕ Unit) :=
  bif (decide (x4 < (len s_1))) then ((getI s_1 x4).bind fun c5 => (spec_l5Sign (c5.toNat : Int)).bind fun r6 => bif (!r6) then (some (.inl false)) else (self (w64 (x4 + 1)))) else (some (.inr ()))
noncomputable def spec_l5Name_la (s_1 : Str)  : Int → Option (Bool ⊕ Unit) := fixO (spec_l5Name_la_F s_1)
theorem spec_l5Name_la_fin (s_1 : Str)  : ∀ a, Fin1 fun f => spec_l5Name_la_F s_1 f a := by
  intro a
  unfold spec_l5Name_la_F
  repeat first | exact f_const | exact f_self | refine f_cond ?_ ?_ | refine f_bindJ ?_ (fun _ => ?_) | refine f_bindL ?_ (fun _ => ?_) | refine f_bind ?_ (fun _ => ?_) | refine f_letJ (fun _ => ?_)
theorem spec_l5Name_la_eq (s_1 : Str)  (x : Int) : spec_l5Name_la s_1 x = spec_l5Name_la_F s_1 (spec_l5Name_la s_1) x := fix_eq (spec_l5Name_la_fin s_1) x
noncomputable def spec_l5Name (s_1 : Str) : Option Bool :=
  (spec_l1In (len s_1) 1 8).bind fun r2 => bindJ (ρ := Bool) (bif (!r2) then (some (.inr true)) else ((getI s_1 0).bind fun c16 => bindL (ρ := Bool) (bif (decide ((c16.toNat : Int) < 97)) then (some (.inr true)) else ((getI s_1 0).bind fun c18 => some (.inr (decide ((c18.toNat : Int) > 122))))) fun u17 : Bool => some (.inr u17))) fun u3 : Bool => bif u3 then (some false) else (bindJ (ρ := Bool) (spec_l5Name_la s_1 0) fun u7 : Unit => letJ (bif (s_1 == [116, 114, 117, 101]) then ((s_1 == [116, 114, 117, 101])) else (letJ (bif (s_1 == [102, 114, 111, 109]) then ((s_1 == [102, 114, 111, 109])) else (letJ (bif (s_1 == [110, 111, 116]) then ((s_1 == [110, 111, 116])) else (letJ (bif (s_1 == [97, 110, 100]) then ((s_1 == [97, 110, 100])) else (letJ (bif (s_1 == [111, 114]) then ((s_1 == [111, 114])) else (letJ (bif (s_1 == [98, 111, 116, 104]) then ((s_1 == [98, 111, 116, 104])) else (letJ (bif (s_1 == [101, 105, 116, 104, 101, 114]) then ((s_1 == [101, 105, 116, 104, 101, 114])) else (letJ (bif (s_1 == [105, 116]) then ((s_1 == [105, 116])) else ((s_1 == [105, 110]))) fun u15 : Bool => u15)) fun u14 : Bool => u14)) fun u13 : Bool => u13)) fun u12 : Bool => u12)) fun u11 : Bool => u11)) fun u10 : Bool => u10)) fun u9 : Bool => u9)) fun u8 : Bool => bif u8 then (some false) else (some true))
noncomputable def spec_l8Event (e_1 : Event) (parties_2 : Int) : Option Bool :=
  (spec_l3Good e_1.Day).bind fun r3 => bindJ (ρ := Bool) (bif r3 then ((spec_l1In e_1.Party 0 (w64 (parties_2 - 1))).bind fun r5 => bindL (ρ := Bool) (bif r5 then ((spec_l5Name e_1.Action).bind fun r7 => bindL (ρ := Bool) (bif r7 then ((spec_l1In e_1.Amount 0 1000000).bind fun r9 => some (.inr r9)) else (some (.inr false))) fun u8 : Bool => some (.inr u8)) else (some (.inr false))) fun u6 : Bool => some (.inr u6)) else (some (.inr false))) fun u4 : Bool => some u4
noncomputable def spec_l8Valid_la_F (list_1 : List Event) (parties_2 : Int)  (self : Int → Option (Bool ⊕ Unit)) (x3 : Int) : Option (Bool ⊕ Unit) :=
  letJ (bif (decide (x3 < (len list_1))) then ((decide (x3 ≤ 40))) else (false)) fun u4 : Bool => bif u4 then ((getI list_1 x3).bind fun e5 => (spec_l8Event e5 parties_2).bind fun r6 => bif (!r6) then (some (.inl false)) else (self (w64 (x3 + 1)))) else (some (.inr ()))
noncomputable def spec_l8Valid_la (list_1 : List Event) (parties_2 : Int)  : Int → Option (Bool ⊕ Unit) := fixO (spec_l8Valid_la_F list_1 parties_2)
theorem spec_l8Valid_la_fin (list_1 : List Event) (parties_2 : Int)  : ∀ a, Fin1 fun f => spec_l8Valid_la_F list_1 parties_2 f a := by
  intro a
  unfold spec_l8Valid_la_F
  repeat first | exact f_const | exact f_self | refine f_cond ?_ ?_ | refine f_bindJ ?_ (fun _ => ?_) | refine f_bindL ?_ (fun _ => ?_) | refine f_bind ?_ (fun _ => ?_) | refine f_letJ (fun _ => ?_)
theorem spec_l8Valid_la_eq (list_1 : List Event) (parties_2 : Int)  (x : Int) : spec_l8Valid_la list_1 parties_2 x = spec_l8Valid_la_F list_1 parties_2 (spec_l8Valid_la list_1 parties_2) x := fix_eq (spec_l8Valid_la_fin list_1 parties_2) x
noncomputable def spec_l8Valid (list_1 : List Event) (parties_2 : Int) : Option Bool :=
  bindJ (ρ := Bool) (spec_l8Valid_la list_1 parties_2 0) fun u7 : Unit => bindJ (ρ := Bool) (bif (decide ((len list_1) ≤ 40)) then ((spec_l1In parties_2 2 4).bind fun r9 => some (.inr r9)) else (some (.inr false))) fun u8 : Bool => some u8
noncomputable def spec_l8Good_la_F (list_1 : List Event) (parties_2 : Int)  (self : Int → Option (Bool ⊕ Unit)) (x3 : Int) : Option (Bool ⊕ Unit) :=
  letJ (bif (decide (x3 < (len list_1))) then ((decide (x3 ≤ 40))) else (false)) fun u4 : Bool => bif u4 then ((getI list_1 (w64 (x3 - 1))).bind fun e5 => (getI list_1 x3).bind fun e6 => (spec_l8Compare e5 e6).bind fun r7 => bif (decide (r7 > 0)) then (some (.inl false)) else (self (w64 (x3 + 1)))) else (some (.inr ()))
noncomputable def spec_l8Good_la (list_1 : List Event) (parties_2 : Int)  : Int → Option (Bool ⊕ Unit) := fixO (spec_l8Good_la_F list_1 parties_2)
theorem spec_l8Good_la_fin (list_1 : List Event) (parties_2 : Int)  : ∀ a, Fin1 fun f => spec_l8Good_la_F list_1 parties_2 f a := by
  intro a
  unfold spec_l8Good_la_F
  repeat first | exact f_const | exact f_self | refine f_cond ?_ ?_ | refine f_bindJ ?_ (fun _ => ?_) | refine f_bindL ?_ (fun _ => ?_) | refine f_bind ?_ (fun _ => ?_) | refine f_letJ (fun _ => ?_)
theorem spec_l8Good_la_eq (list_1 : List Event) (parties_2 : Int)  (x : Int) : spec_l8Good_la list_1 parties_2 x = spec_l8Good_la_F list_1 parties_2 (spec_l8Good_la list_1 parties_2) x := fix_eq (spec_l8Good_la_fin list_1 parties_2) x
noncomputable def spec_l8Good (list_1 : List Event) (parties_2 : Int) : Option Bool :=
  bindJ (ρ := Bool) (spec_l8Good_la list_1 parties_2 1) fun u8 : Unit => (spec_l8Valid list_1 parties_2).bind fun r9 => some r9
noncomputable def spec_CountActions_la_F (list_1 : List Event) (parties_2 : Int) (party_3 : Int) (action_4 : Str)  (self : (Int × Int × Int) → Option ((Int × Int × Bool) ⊕ (Int × Int))) (x6 : Int × Int × Int) : Option ((Int × Int × Bool) ⊕ (Int × Int)) :=
  bif (decide (x6.2.2 < (len list_1))) then ((getI list_1 x6.2.2).bind fun e7 => bindL (ρ := Int × Int × Bool) (bif (e7.Party == party_3) then ((getI list_1 x6.2.2).bind fun e11 => some (.inr (e11.Action == action_4))) else (some (.inr false))) fun u8 : Bool => bindL (ρ := Int × Int × Bool) (bif u8 then ((getI list_1 x6.2.2).bind fun e10 => some (.inr ((w64 (x6.1 + 1)), (w64 (x6.2.1 + e10.Amount))))) else (some (.inr (x6.1, x6.2.1)))) fun u9 : Int × Int => self (u9.1, u9.2, (w64 (x6.2.2 + 1)))) else (some (.inr (x6.1, x6.2.1)))
noncomputable def spec_CountActions_la (list_1 : List Event) (parties_2 : Int) (party_3 : Int) (action_4 : Str)  : (Int × Int × Int) → Option ((Int × Int × Bool) ⊕ (Int × Int)) := fixO (spec_CountActions_la_F list_1 parties_2 party_3 action_4)
theorem spec_CountActions_la_fin (list_1 : List Event) (parties_2 : Int) (party_3 : Int) (action_4 : Str)  : ∀ a, Fin1 fun f => spec_CountActions_la_F list_1 parties_2 party_3 action_4 f a := by
  intro a
  unfold spec_CountActions_la_F
  repeat first | exact f_const | exact f_self | refine f_cond ?_ ?_ | refine f_bindJ ?_ (fun _ => ?_) | refine f_bindL ?_ (fun _ => ?_) | refine f_bind ?_ (fun _ => ?_) | refine f_letJ (fun _ => ?_)
theorem spec_CountActions_la_eq (list_1 : List Event) (parties_2 : Int) (party_3 : Int) (action_4 : Str)  (x : Int × Int × Int) : spec_CountActions_la list_1 parties_2 party_3 action_4 x = spec_CountActions_la_F list_1 parties_2 party_3 action_4 (spec_CountActions_la list_1 parties_2 party_3 action_4) x := fix_eq (spec_CountActions_la_fin list_1 parties_2 party_3 action_4) x
noncomputable def spec_CountActions (list_1 : List Event) (parties_2 : Int) (party_3 : Int) (action_4 : Str) : Option (Int × Int × Bool) :=
  (spec_l8Good list_1 parties_2).bind fun r5 => bif (!r5) then (some (0, 0, false)) else (bindJ (ρ := Int × Int × Bool) (spec_CountActions_la list_1 parties_2 party_3 action_4 (0, 0, 0)) fun u12 : Int × Int => some (u12.1, u12.2, true))
noncomputable def impl_within (n_1 : Int) (low_2 : Int) (high_3 : Int) : Option Bool :=
  letJ (bif (decide (n_1 ≥ low_2)) then ((decide (n_1 ≤ high_3))) else (false)) fun u4 : Bool => some u4
noncomputable def impl_isDay (day_1 : Int) : Option Bool :=
  (impl_within day_1 0 36524).bind fun r2 => some r2
noncomputable def internal_stringslite_IndexByte (s_1 : Str) (c_2 : Int) : Option Int :=
  (xIndexByteString s_1 c_2).bind fun r3 => some r3
noncomputable def internal_stringslite_Index (s_1 : Str) (substr_2 : Str) : Option Int :=
  letJ (bif ((len substr_2) == 0) then (true) else ((substr_2 == s_1))) fun u3 : Bool => bif u3 then (some 0) else (bif ((len substr_2) == 1) then ((getI substr_2 0).bind fun c4 => (internal_stringslite_IndexByte s_1 (c4.toNat : Int)).bind fun r5 => some r5) else (bif (decide ((len substr_2) ≥ (len s_1))) then (some (-1)) else (none)))
noncomputable def strings_Index (s_1 : Str) (substr_2 : Str) : Option Int :=
  (internal_stringslite_Index s_1 substr_2).bind fun r3 => some r3
noncomputable def strings_Count_la_F (s_1 : Str) (substr_2 : Str)  (self : (Str × Int) → Option (Int ⊕ Unit)) (x5 : Str × Int) : Option (Int ⊕ Unit) :=
  (strings_Index x5.1 substr_2).bind fun r6 => bif (r6 == (-1)) then (some (.inl x5.2)) else ((subI x5.1 (w64 (r6 + (len substr_2))) (len x5.1)).bind fun s7 => self (s7, (w64 (x5.2 + 1))))
noncomputable def strings_Count_la (s_1 : Str) (substr_2 : Str)  : (Str × Int) → Option (Int ⊕ Unit) := fixO (strings_Count_la_F s_1 substr_2)
theorem strings_Count_la_fin (s_1 : Str) (substr_2 : Str)  : ∀ a, Fin1 fun f => strings_Count_la_F s_1 substr_2 f a := by
  intro a
  unfold strings_Count_la_F
  repeat first | exact f_const | exact f_self | refine f_cond ?_ ?_ | refine f_bindJ ?_ (fun _ => ?_) | refine f_bindL ?_ (fun _ => ?_) | refine f_bind ?_ (fun _ => ?_) | refine f_letJ (fun _ => ?_)
theorem strings_Count_la_eq (s_1 : Str) (substr_2 : Str)  (x : Str × Int) : strings_Count_la s_1 substr_2 x = strings_Count_la_F s_1 substr_2 (strings_Count_la s_1 substr_2) x := fix_eq (strings_Count_la_fin s_1 substr_2) x
noncomputable def strings_Count (s_1 : Str) (substr_2 : Str) : Option Int :=
  bif ((len substr_2) == 0) then (none) else (bif ((len substr_2) == 1) then ((getI substr_2 0).bind fun c3 => (xCountString s_1 (c3.toNat : Int)).bind fun r4 => some r4) else (bindJ (ρ := Int) (strings_Count_la s_1 substr_2 (s_1, 0)) fun u8 : Unit => none))
noncomputable def strings_genSplit_la_F (s_1 : Str) (sep_2 : Str) (sepSave_3 : Int) (n_4 : Int) (u5 : Int) (self : (Str × Int × (List Str)) → Option (((List Str)) ⊕ (Str × Int × (List Str)))) (x7 : Str × Int × (List Str)) : Option (((List Str)) ⊕ (Str × Int × (List Str))) :=
  bif (decide (x7.2.1 < (w64 ((if (w64 ((len s_1) + 1)) < u5 then (w64 ((len s_1) + 1)) else u5) - 1)))) then ((strings_Index x7.1 sep_2).bind fun r8 => bif (decide (r8 < 0)) then (some (.inr (x7.1, x7.2.1, x7.2.2))) else ((subI x7.1 0 (w64 (r8 + sepSave_3))).bind fun s9 => (getI x7.2.2 x7.2.1).bind fun e10 => (subI x7.1 (w64 (r8 + (len sep_2))) (len x7.1)).bind fun s11 => self (s11, (w64 (x7.2.1 + 1)), (setI x7.2.2 x7.2.1 s9)))) else (some (.inr (x7.1, x7.2.1, x7.2.2)))
noncomputable def strings_genSplit_la (s_1 : Str) (sep_2 : Str) (sepSave_3 : Int) (n_4 : Int) (u5 : Int) : (Str × Int × (List Str)) → Option (((List Str)) ⊕ (Str × Int × (List Str))) := fixO (strings_genSplit_la_F s_1 sep_2 sepSave_3 n_4 u5)
theorem strings_genSplit_la_fin (s_1 : Str) (sep_2 : Str) (sepSave_3 : Int) (n_4 : Int) (u5 : Int) : ∀ a, Fin1 fun f => strings_genSplit_la_F s_1 sep_2 sepSave_3 n_4 u5 f a := by
  intro a
  unfold strings_genSplit_la_F
  repeat first | exact f_const | exact f_self | refine f_cond ?_ ?_ | refine f_bindJ ?_ (fun _ => ?_) | refine f_bindL ?_ (fun _ => ?_) | refine f_bind ?_ (fun _ => ?_) | refine f_letJ (fun _ => ?_)
theorem strings_genSplit_la_eq (s_1 : Str) (sep_2 : Str) (sepSave_3 : Int) (n_4 : Int) (u5 : Int) (x : Str × Int × (List Str)) : strings_genSplit_la s_1 sep_2 sepSave_3 n_4 u5 x = strings_genSplit_la_F s_1 sep_2 sepSave_3 n_4 u5 (strings_genSplit_la s_1 sep_2 sepSave_3 n_4 u5) x := fix_eq (strings_genSplit_la_fin s_1 sep_2 sepSave_3 n_4 u5) x
noncomputable def strings_genSplit (s_1 : Str) (sep_2 : Str) (sepSave_3 : Int) (n_4 : Int) : Option ((List Str)) :=
  bif (n_4 == 0) then (none) else (bif (sep_2 == []) then (none) else (bindJ (ρ := (List Str)) (bif (decide (n_4 < 0)) then ((strings_Count s_1 sep_2).bind fun r15 => some (.inr (w64 (r15 + 1)))) else (some (.inr n_4))) fun u5 : Int => (mkI 16 [] (if (w64 ((len s_1) + 1)) < u5 then (w64 ((len s_1) + 1)) else u5)).bind fun m6 => bindJ (ρ := (List Str)) (strings_genSplit_la s_1 sep_2 sepSave_3 n_4 u5 (s_1, 0, m6)) fun u12 : Str × Int × (List Str) => (getI u12.2.2 u12.2.1).bind fun e13 => (subI (setI u12.2.2 u12.2.1 u12.1) 0 (w64 (u12.2.1 + 1))).bind fun s14 => some s14))
noncomputable def strings_Split (s_1 : Str) (sep_2 : Str) : Option ((List Str)) :=
  (strings_genSplit s_1 sep_2 0 (-1)).bind fun r3 => some r3
noncomputable def slices_Index_string_string_la_F (s_1 : List Str) (v_2 : Str)  (self : Int → Option (Int ⊕ Unit)) (x3 : Int) : Option (Int ⊕ Unit) :=
  bif (decide (x3 < (len s_1))) then ((getI s_1 x3).bind fun e4 => bif (v_2 == e4) then (some (.inl x3)) else (self (w64 (x3 + 1)))) else (some (.inr ()))
noncomputable def slices_Index_string_string_la (s_1 : List Str) (v_2 : Str)  : Int → Option (Int ⊕ Unit) := fixO (slices_Index_string_string_la_F s_1 v_2)
theorem slices_Index_string_string_la_fin (s_1 : List Str) (v_2 : Str)  : ∀ a, Fin1 fun f => slices_Index_string_string_la_F s_1 v_2 f a := by
  intro a
  unfold slices_Index_string_string_la_F
  repeat first | exact f_const | exact f_self | refine f_cond ?_ ?_ | refine f_bindJ ?_ (fun _ => ?_) | refine f_bindL ?_ (fun _ => ?_) | refine f_bind ?_ (fun _ => ?_) | refine f_letJ (fun _ => ?_)
theorem slices_Index_string_string_la_eq (s_1 : List Str) (v_2 : Str)  (x : Int) : slices_Index_string_string_la s_1 v_2 x = slices_Index_string_string_la_F s_1 v_2 (slices_Index_string_string_la s_1 v_2) x := fix_eq (slices_Index_string_string_la_fin s_1 v_2) x
noncomputable def slices_Index_string_string (s_1 : List Str) (v_2 : Str) : Option Int :=
  bindJ (ρ := Int) (slices_Index_string_string_la s_1 v_2 0) fun u5 : Unit => some (-1)
noncomputable def slices_Contains_string_string (s_1 : List Str) (v_2 : Str) : Option Bool :=
  (slices_Index_string_string s_1 v_2).bind fun r3 => some (decide (r3 ≥ 0))
noncomputable def impl_IsValidName_la_F (s_1 : Str)  (self : Int → Option (Bool ⊕ Unit)) (x4 : Int) : Option (Bool ⊕ Unit) :=
  bif (decide (x4 < (len s_1))) then ((getI s_1 x4).bind fun c5 => letJ (bif (decide ((c5.toNat : Int) < 97)) then (letJ (bif (decide ((c5.toNat : Int) < 48)) then (true) else ((decide ((c5.toNat : Int) > 57)))) fun u7 : Bool => u7) else (letJ (bif (decide ((c5.toNat : Int) > 122)) then (letJ (bif (decide ((c5.toNat : Int) < 48)) then (true) else ((decide ((c5.toNat : Int) > 57)))) fun u9 : Bool => u9) else (false)) fun u8 : Bool => u8)) fun u6 : Bool => bif u6 then (some (.inl false)) else (self (w64 (x4 + 1)))) else (some (.inr ()))
noncomputable def impl_IsValidName_la (s_1 : Str)  : Int → Option (Bool ⊕ Unit) := fixO (impl_IsValidName_la_F s_1)
theorem impl_IsValidName_la_fin (s_1 : Str)  : ∀ a, Fin1 fun f => impl_IsValidName_la_F s_1 f a := by
  intro a
  unfold impl_IsValidName_la_F
  repeat first | exact f_const | exact f_self | refine f_cond ?_ ?_ | refine f_bindJ ?_ (fun _ => ?_) | refine f_bindL ?_ (fun _ => ?_) | refine f_bind ?_ (fun _ => ?_) | refine f_letJ (fun _ => ?_)
theorem impl_IsValidName_la_eq (s_1 : Str)  (x : Int) : impl_IsValidName_la s_1 x = impl_IsValidName_la_F s_1 (impl_IsValidName_la s_1) x := fix_eq (impl_IsValidName_la_fin s_1) x
noncomputable def impl_IsValidName (s_1 : Str) : Option Bool :=
  (impl_within (len s_1) 1 8).bind fun r2 => bindJ (ρ := Bool) (bif (!r2) then (some (.inr true)) else ((getI s_1 0).bind fun c13 => bindL (ρ := Bool) (bif (decide ((c13.toNat : Int) < 97)) then (some (.inr true)) else ((getI s_1 0).bind fun c15 => some (.inr (decide ((c15.toNat : Int) > 122))))) fun u14 : Bool => some (.inr u14))) fun u3 : Bool => bif u3 then (some false) else (bindJ (ρ := Bool) (impl_IsValidName_la s_1 0) fun u10 : Unit => (strings_Split [116, 114, 117, 101, 32, 102, 114, 111, 109, 32, 110, 111, 116, 32, 97, 110, 100, 32, 111, 114, 32, 98, 111, 116, 104, 32, 101, 105, 116, 104, 101, 114, 32, 105, 116, 32, 105, 110] [32]).bind fun r11 => (slices_Contains_string_string r11 s_1).bind fun r12 => some (!r12))
noncomputable def impl_isEvent (e_1 : Event) (parties_2 : Int) : Option Bool :=
  (impl_isDay e_1.Day).bind fun r3 => bindJ (ρ := Bool) (bif r3 then ((impl_within e_1.Party 0 (w64 (parties_2 - 1))).bind fun r5 => bindL (ρ := Bool) (bif r5 then ((impl_IsValidName e_1.Action).bind fun r7 => bindL (ρ := Bool) (bif r7 then ((impl_within e_1.Amount 0 1000000).bind fun r9 => some (.inr r9)) else (some (.inr false))) fun u8 : Bool => some (.inr u8)) else (some (.inr false))) fun u6 : Bool => some (.inr u6)) else (some (.inr false))) fun u4 : Bool => some u4
noncomputable def impl_areEvents_1 (e_1 : Event) (a_2 : Int) : Option Bool :=
  (impl_isEvent e_1 a_2).bind fun r3 => some (!r3)
noncomputable def slices_IndexFunc_impl_Event_impl_Event_w_impl_areEvents_1_la_F (s_1 : List Event) (f_2 : Int)  (self : Int → Option (Int ⊕ Unit)) (x3 : Int) : Option (Int ⊕ Unit) :=
  bif (decide (x3 < (len s_1))) then ((getI s_1 x3).bind fun e4 => (impl_areEvents_1 e4 f_2).bind fun r5 => bif r5 then (some (.inl x3)) else (self (w64 (x3 + 1)))) else (some (.inr ()))
noncomputable def slices_IndexFunc_impl_Event_impl_Event_w_impl_areEvents_1_la (s_1 : List Event) (f_2 : Int)  : Int → Option (Int ⊕ Unit) := fixO (slices_IndexFunc_impl_Event_impl_Event_w_impl_areEvents_1_la_F s_1 f_2)
theorem slices_IndexFunc_impl_Event_impl_Event_w_impl_areEvents_1_la_fin (s_1 : List Event) (f_2 : Int)  : ∀ a, Fin1 fun f => slices_IndexFunc_impl_Event_impl_Event_w_impl_areEvents_1_la_F s_1 f_2 f a := by
  intro a
  unfold slices_IndexFunc_impl_Event_impl_Event_w_impl_areEvents_1_la_F
  repeat first | exact f_const | exact f_self | refine f_cond ?_ ?_ | refine f_bindJ ?_ (fun _ => ?_) | refine f_bindL ?_ (fun _ => ?_) | refine f_bind ?_ (fun _ => ?_) | refine f_letJ (fun _ => ?_)
theorem slices_IndexFunc_impl_Event_impl_Event_w_impl_areEvents_1_la_eq (s_1 : List Event) (f_2 : Int)  (x : Int) : slices_IndexFunc_impl_Event_impl_Event_w_impl_areEvents_1_la s_1 f_2 x = slices_IndexFunc_impl_Event_impl_Event_w_impl_areEvents_1_la_F s_1 f_2 (slices_IndexFunc_impl_Event_impl_Event_w_impl_areEvents_1_la s_1 f_2) x := fix_eq (slices_IndexFunc_impl_Event_impl_Event_w_impl_areEvents_1_la_fin s_1 f_2) x
noncomputable def slices_IndexFunc_impl_Event_impl_Event_w_impl_areEvents_1 (s_1 : List Event) (f_2 : Int) : Option Int :=
  bindJ (ρ := Int) (slices_IndexFunc_impl_Event_impl_Event_w_impl_areEvents_1_la s_1 f_2 0) fun u6 : Unit => some (-1)
noncomputable def slices_ContainsFunc_impl_Event_impl_Event_w_impl_areEvents_1 (s_1 : List Event) (f_2 : Int) : Option Bool :=
  (slices_IndexFunc_impl_Event_impl_Event_w_impl_areEvents_1 s_1 f_2).bind fun r3 => some (decide (r3 ≥ 0))
noncomputable def impl_areEvents (list_1 : List Event) (parties_2 : Int) : Option Bool :=
  (impl_within parties_2 2 4).bind fun r3 => bindJ (ρ := Bool) (bif r3 then (bindL (ρ := Bool) (bif (decide ((len list_1) ≤ 40)) then ((slices_ContainsFunc_impl_Event_impl_Event_w_impl_areEvents_1 list_1 parties_2).bind fun r6 => some (.inr (!r6))) else (some (.inr false))) fun u5 : Bool => some (.inr u5)) else (some (.inr false))) fun u4 : Bool => some u4
noncomputable def cmp_isNaN_int (x_1 : Int) : Option Bool :=
  some (x_1 != x_1)
noncomputable def cmp_Compare_int (x_1 : Int) (y_2 : Int) : Option Int :=
  (cmp_isNaN_int x_1).bind fun r3 => (cmp_isNaN_int y_2).bind fun r4 => bif r3 then (bif r4 then (some 0) else (some (-1))) else (bif r4 then (some 1) else (bif (decide (x_1 < y_2)) then (some (-1)) else (bif (decide (x_1 > y_2)) then (some 1) else (some 0))))
noncomputable def cmp_isNaN_string (x_1 : Str) : Option Bool :=
  some (!(x_1 == x_1))
noncomputable def cmp_Compare_string (x_1 : Str) (y_2 : Str) : Option Int :=
  (cmp_isNaN_string x_1).bind fun r3 => (cmp_isNaN_string y_2).bind fun r4 => bif r3 then (bif r4 then (some 0) else (some (-1))) else (bif r4 then (some 1) else (bif (Op.bytesLess x_1 y_2) then (some (-1)) else (bif (!(Op.bytesLess x_1 y_2 || x_1 == y_2)) then (some 1) else (some 0))))
noncomputable def cmp_Or_int_la_F (vals_1 : List Int)  (self : Int → Option (Int ⊕ Unit)) (x2 : Int) : Option (Int ⊕ Unit) :=
  bif (decide (x2 < (len vals_1))) then ((getI vals_1 x2).bind fun e3 => bif (e3 != 0) then (some (.inl e3)) else (self (w64 (x2 + 1)))) else (some (.inr ()))
noncomputable def cmp_Or_int_la (vals_1 : List Int)  : Int → Option (Int ⊕ Unit) := fixO (cmp_Or_int_la_F vals_1)
theorem cmp_Or_int_la_fin (vals_1 : List Int)  : ∀ a, Fin1 fun f => cmp_Or_int_la_F vals_1 f a := by
  intro a
  unfold cmp_Or_int_la_F
  repeat first | exact f_const | exact f_self | refine f_cond ?_ ?_ | refine f_bindJ ?_ (fun _ => ?_) | refine f_bindL ?_ (fun _ => ?_) | refine f_bind ?_ (fun _ => ?_) | refine f_letJ (fun _ => ?_)
theorem cmp_Or_int_la_eq (vals_1 : List Int)  (x : Int) : cmp_Or_int_la vals_1 x = cmp_Or_int_la_F vals_1 (cmp_Or_int_la vals_1) x := fix_eq (cmp_Or_int_la_fin vals_1) x
noncomputable def cmp_Or_int (vals_1 : List Int) : Option Int :=
  bindJ (ρ := Int) (cmp_Or_int_la vals_1 0) fun u4 : Unit => some 0
noncomputable def impl_CompareEvents (a_1 : Event) (b_2 : Event) : Option Int :=
  (cmp_Compare_int a_1.Day b_2.Day).bind fun r3 => (cmp_Compare_int a_1.Party b_2.Party).bind fun r4 => (cmp_Compare_string a_1.Action b_2.Action).bind fun r5 => (cmp_Compare_int a_1.Amount b_2.Amount).bind fun r6 => (cmp_Or_int [r3, r4, r5, r6]).bind fun r7 => some r7
noncomputable def slices_IsSortedFunc_impl_Event_impl_Event_w_impl_CompareEvents_la_F (x_1 : List Event) (cmp_2 : Unit)  (self : Int → Option (Bool ⊕ Unit)) (x3 : Int) : Option (Bool ⊕ Unit) :=
  bif (decide (x3 > 0)) then ((getI x_1 x3).bind fun e4 => (getI x_1 (w64 (x3 - 1))).bind fun e5 => (impl_CompareEvents e4 e5).bind fun r6 => bif (decide (r6 < 0)) then (some (.inl false)) else (self (w64 (x3 - 1)))) else (some (.inr ()))
noncomputable def slices_IsSortedFunc_impl_Event_impl_Event_w_impl_CompareEvents_la (x_1 : List Event) (cmp_2 : Unit)  : Int → Option (Bool ⊕ Unit) := fixO (slices_IsSortedFunc_impl_Event_impl_Event_w_impl_CompareEvents_la_F x_1 cmp_2)
theorem slices_IsSortedFunc_impl_Event_impl_Event_w_impl_CompareEvents_la_fin (x_1 : List Event) (cmp_2 : Unit)  : ∀ a, Fin1 fun f => slices_IsSortedFunc_impl_Event_impl_Event_w_impl_CompareEvents_la_F x_1 cmp_2 f a := by
  intro a
  unfold slices_IsSortedFunc_impl_Event_impl_Event_w_impl_CompareEvents_la_F
  repeat first | exact f_const | exact f_self | refine f_cond ?_ ?_ | refine f_bindJ ?_ (fun _ => ?_) | refine f_bindL ?_ (fun _ => ?_) | refine f_bind ?_ (fun _ => ?_) | refine f_letJ (fun _ => ?_)
theorem slices_IsSortedFunc_impl_Event_impl_Event_w_impl_CompareEvents_la_eq (x_1 : List Event) (cmp_2 : Unit)  (x : Int) : slices_IsSortedFunc_impl_Event_impl_Event_w_impl_CompareEvents_la x_1 cmp_2 x = slices_IsSortedFunc_impl_Event_impl_Event_w_impl_CompareEvents_la_F x_1 cmp_2 (slices_IsSortedFunc_impl_Event_impl_Event_w_impl_CompareEvents_la x_1 cmp_2) x := fix_eq (slices_IsSortedFunc_impl_Event_impl_Event_w_impl_CompareEvents_la_fin x_1 cmp_2) x
noncomputable def slices_IsSortedFunc_impl_Event_impl_Event_w_impl_CompareEvents (x_1 : List Event) (cmp_2 : Unit) : Option Bool :=
  bindJ (ρ := Bool) (slices_IsSortedFunc_impl_Event_impl_Event_w_impl_CompareEvents_la x_1 cmp_2 (w64 ((len x_1) - 1))) fun u7 : Unit => some true
noncomputable def impl_IsValidEvents (list_1 : List Event) (parties_2 : Int) : Option Bool :=
  (impl_areEvents list_1 parties_2).bind fun r3 => bindJ (ρ := Bool) (bif r3 then ((slices_IsSortedFunc_impl_Event_impl_Event_w_impl_CompareEvents list_1 ()).bind fun r5 => some (.inr r5)) else (some (.inr false))) fun u4 : Bool => some u4
noncomputable def impl_CountActions_la_F (list_1 : List Event) (parties_2 : Int) (party_3 : Int) (action_4 : Str)  (self : (Int × Int × Int) → Option ((Int × Int × Bool) ⊕ (Int × Int))) (x6 : Int × Int × Int) : Option ((Int × Int × Bool) ⊕ (Int × Int)) :=
  bif (decide (x6.2.2 < (len list_1))) then ((getI list_1 x6.2.2).bind fun e7 => letJ (bif (e7.Party == party_3) then ((e7.Action == action_4)) else (false)) fun u8 : Bool => letJ (bif u8 then (((w64 (x6.1 + 1)), (w64 (x6.2.1 + e7.Amount)))) else ((x6.1, x6.2.1))) fun u9 : Int × Int => self (u9.1, u9.2, (w64 (x6.2.2 + 1)))) else (some (.inr (x6.1, x6.2.1)))
noncomputable def impl_CountActions_la (list_1 : List Event) (parties_2 : Int) (party_3 : Int) (action_4 : Str)  : (Int × Int × Int) → Option ((Int × Int × Bool) ⊕ (Int × Int)) := fixO (impl_CountActions_la_F list_1 parties_2 party_3 action_4)
theorem impl_CountActions_la_fin (list_1 : List Event) (parties_2 : Int) (party_3 : Int) (action_4 : Str)  : ∀ a, Fin1 fun f => impl_CountActions_la_F list_1 parties_2 party_3 action_4 f a := by
  intro a
  unfold impl_CountActions_la_F
  repeat first | exact f_const | exact f_self | refine f_cond ?_ ?_ | refine f_bindJ ?_ (fun _ => ?_) | refine f_bindL ?_ (fun _ => ?_) | refine f_bind ?_ (fun _ => ?_) | refine f_letJ (fun _ => ?_)
theorem impl_CountActions_la_eq (list_1 : List Event) (parties_2 : Int) (party_3 : Int) (action_4 : Str)  (x : Int × Int × Int) : impl_CountActions_la list_1 parties_2 party_3 action_4 x = impl_CountActions_la_F list_1 parties_2 party_3 action_4 (impl_CountActions_la list_1 parties_2 party_3 action_4) x := fix_eq (impl_CountActions_la_fin list_1 parties_2 party_3 action_4) x
noncomputable def impl_CountActions (list_1 : List Event) (parties_2 : Int) (party_3 : Int) (action_4 : Str) : Option (Int × Int × Bool) :=
  (impl_IsValidEvents list_1 parties_2).bind fun r5 => bif (!r5) then (some (0, 0, false)) else (bindJ (ρ := Int × Int × Bool) (impl_CountActions_la list_1 parties_2 party_3 action_4 (0, 0, 0)) fun u10 : Int × Int => some (u10.1, u10.2, true))
noncomputable def laws_eqEvent (a_1 : Event) (b_2 : Event) : Option Bool :=
  bif (a_1.Day != b_2.Day) then (some false) else (bif (a_1.Party != b_2.Party) then (some false) else (bif (!(a_1.Action == b_2.Action)) then (some false) else (bif (a_1.Amount != b_2.Amount) then (some false) else (some true))))
noncomputable def laws_eqEventS_la_F (a_1 : List Event) (b_2 : List Event)  (self : Int → Option (Bool ⊕ Unit)) (x3 : Int) : Option (Bool ⊕ Unit) :=
  bif (decide (x3 < (len a_1))) then ((getI a_1 x3).bind fun e4 => (getI b_2 x3).bind fun e5 => (laws_eqEvent e4 e5).bind fun r6 => bif (!r6) then (some (.inl false)) else (self (w64 (x3 + 1)))) else (some (.inr ()))
noncomputable def laws_eqEventS_la (a_1 : List Event) (b_2 : List Event)  : Int → Option (Bool ⊕ Unit) := fixO (laws_eqEventS_la_F a_1 b_2)
theorem laws_eqEventS_la_fin (a_1 : List Event) (b_2 : List Event)  : ∀ a, Fin1 fun f => laws_eqEventS_la_F a_1 b_2 f a := by
  intro a
  unfold laws_eqEventS_la_F
  repeat first | exact f_const | exact f_self | refine f_cond ?_ ?_ | refine f_bindJ ?_ (fun _ => ?_) | refine f_bindL ?_ (fun _ => ?_) | refine f_bind ?_ (fun _ => ?_) | refine f_letJ (fun _ => ?_)
theorem laws_eqEventS_la_eq (a_1 : List Event) (b_2 : List Event)  (x : Int) : laws_eqEventS_la a_1 b_2 x = laws_eqEventS_la_F a_1 b_2 (laws_eqEventS_la a_1 b_2) x := fix_eq (laws_eqEventS_la_fin a_1 b_2) x
noncomputable def laws_eqEventS (a_1 : List Event) (b_2 : List Event) : Option Bool :=
  bif ((len a_1) != (len b_2)) then (some false) else (bindJ (ρ := Bool) (laws_eqEventS_la a_1 b_2 0) fun u7 : Unit => some true)
noncomputable def laws_FnExactCountActions (aList_1 : List Event) (aParties_2 : Int) (aParty_3 : Int) (aAction_4 : Str) : Option Bool :=
  bif (decide ((len aAction_4) > 1048576)) then (some true) else ((laws_szEventS aList_1 1048576).bind fun r5 => bif (decide (r5 < 0)) then (some true) else ((laws_toEventS aList_1).bind fun r6 => (spec_CountActions r6 aParties_2 aParty_3 aAction_4).bind fun r7 => (laws_toEventS aList_1).bind fun r8 => (impl_CountActions r8 aParties_2 aParty_3 aAction_4).bind fun r9 => letJ (bif (r9.1 != r7.1) then (true) else (letJ (bif (r9.2.1 != r7.2.1) then (true) else ((!(r9.2.2 == r7.2.2)))) fun u13 : Bool => u13)) fun u10 : Bool => bif u10 then (some false) else ((laws_toEventS aList_1).bind fun r11 => (laws_eqEventS r8 r11).bind fun r12 => bif (!r12) then (some false) else (some true))))
end Go.Ln
