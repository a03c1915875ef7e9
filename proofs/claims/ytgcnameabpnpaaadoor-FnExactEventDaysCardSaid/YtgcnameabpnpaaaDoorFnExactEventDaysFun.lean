/-
  What each function of the law computes, as a plain function.
-/
import Derived.Test.YtgcnameabpnpaaaDoorLnF
set_option maxHeartbeats 4000000
set_option linter.unusedVariables false
set_option linter.unusedSimpArgs false
set_option maxRecDepth 100000
namespace Go.Ln
open Go
structure Event where
  Day : Int
  Party : Int
  Action : Str
  Amount : Int
def enc_Event (x : Event) : V := .agg [I (x.Day), I (x.Party), str (x.Action), I (x.Amount)]
theorem enc_Event_cells (x : Event) : (cells (enc_Event x)).length = 4 ∧ (cells (enc_Event x)).all cellV = true := ⟨rfl, rfl⟩
theorem enc_Event_imm (x : Event) : imm (enc_Event x) = enc_Event x := rfl
theorem enc_Event_himm (x : Event) : hasImm (enc_Event x) = false := rfl
theorem enc_Event_flat (x : Event) : flatE (enc_Event x) = true := rfl
theorem enc_Event_inj (a b : Event) (h : enc_Event a = enc_Event b) : a = b := by
  obtain ⟨p0, p1, p2, p3⟩ := a
  obtain ⟨q0, q1, q2, q3⟩ := b
  replace h := V.agg.inj h
  obtain ⟨h0, h⟩ := List.cons.inj h
  obtain rfl := I_inj p0 q0 h0
  obtain ⟨h1, h⟩ := List.cons.inj h
  obtain rfl := I_inj p1 q1 h1
  obtain ⟨h2, h⟩ := List.cons.inj h
  obtain rfl := str_inj p2 q2 h2
  obtain ⟨h3, h⟩ := List.cons.inj h
  obtain rfl := I_inj p3 q3 h3
  rfl
def ok_Event (x : Event) : Prop := I64 x.Day ∧ I64 x.Party ∧ okS x.Action ∧ I64 x.Amount
noncomputable def laws_szEvent (a_1 : Event) (left_2 : Int) : Option Int :=
  bif (decide ((w64 (left_2 - (len a_1.Action))) < 0)) then (some (-1)) else (some (w64 (left_2 - (len a_1.Action))))
noncomputable def laws_szEventS_la_F (a_1 : List Event) (left_2 : Int)  (self : (Int × Int) → Option (Int ⊕ Int)) (x3 : Int × Int) : Option (Int ⊕ Int) :=
  bif (decide (x3.2 < (len a_1))) then ((getI a_1 x3.2).bind fun e4 => (laws_szEvent e4 x3.1).bind fun r5 => bif (decide (r5 < 0)) then (some (.inl (-1))) else (self (r5, (w64 (x3.2 + 1))))) else (some (.inr x3.1))
noncomputable def laws_szEventS_la (a_1 : List Event) (left_2 : Int)  : (Int × Int) → Option (Int ⊕ Int) := fixO (laws_szEventS_la_F a_1 left_2)
theorem laws_szEventS_la_fin (a_1 : List Event) (left_2 : Int)  : ∀ a, Fin1 fun f => laws_szEventS_la_F a_1 left_2 f a := by
  intro a
  unfold laws_szEventS_la_F
  repeat first | exact f_const | exact f_self | refine f_cond ?_ ?_ | refine f_bindJ ?_ (fun _ => ?_) | refine f_bindL ?_ (fun _ => ?_) | refine f_bind ?_ (fun _ => ?_) | refine f_letJ (fun _ => ?_)
theorem laws_szEventS_la_eq (a_1 : List Event) (left_2 : Int)  (x : Int × Int) : laws_szEventS_la a_1 left_2 x = laws_szEventS_la_F a_1 left_2 (laws_szEventS_la a_1 left_2) x := fix_eq (laws_szEventS_la_fin a_1 left_2) x
noncomputable def laws_szEventS (a_1 : List Event) (left_2 : Int) : Option Int :=
  bif (decide ((w64 (left_2 - (len a_1))) < 0)) then (some (-1)) else (bindJ (ρ := Int) (laws_szEventS_la a_1 left_2 ((w64 (left_2 - (len a_1))), 0)) fun u6 : Int => some u6)
noncomputable def laws_toEvent (a_1 : Event) : Option Event :=
  some a_1
noncomputable def laws_toEventS_la_F (a_1 : List Event)  (self : (Int × (List Event)) → Option (((List Event)) ⊕ ((List Event)))) (x3 : Int × (List Event)) : Option (((List Event)) ⊕ ((List Event))) :=
  bif (decide (x3.1 < (len a_1))) then ((getI a_1 x3.1).bind fun e4 => (laws_toEvent e4).bind fun r5 => (getI x3.2 x3.1).bind fun e6 => self ((w64 (x3.1 + 1)), (setI x3.2 x3.1 r5))) else (some (.inr x3.2))
noncomputable def laws_toEventS_la (a_1 : List Event)  : (Int × (List Event)) → Option (((List Event)) ⊕ ((List Event))) := fixO (laws_toEventS_la_F a_1)
theorem laws_toEventS_la_fin (a_1 : List Event)  : ∀ a, Fin1 fun f => laws_toEventS_la_F a_1 f a := by
  intro a
  unfold laws_toEventS_la_F
  repeat first | exact f_const | exact f_self | refine f_cond ?_ ?_ | refine f_bindJ ?_ (fun _ => ?_) | refine f_bindL ?_ (fun _ => ?_) | refine f_bind ?_ (fun _ => ?_) | refine f_letJ (fun _ => ?_)
theorem laws_toEventS_la_eq (a_1 : List Event)  (x : Int × (List Event)) : laws_toEventS_la a_1 x = laws_toEventS_la_F a_1 (laws_toEventS_la a_1) x := fix_eq (laws_toEventS_la_fin a_1) x
noncomputable def laws_toEventS (a_1 : List Event) : Option ((List Event)) :=
  (mkI 40 (Event.mk 0 0 [] 0) (len a_1)).bind fun m2 => bindJ (ρ := (List Event)) (laws_toEventS_la a_1 (0, m2)) fun u7 : (List Event) => some u7
noncomputable def spec_l8Compare (a_1 : Event) (b_2 : Event) : Option Int :=
  bindJ (ρ := Int) (bif (a_1.Day != b_2.Day) then (some (.inr (a_1.Day, b_2.Day))) else (bindL (ρ := Int) (bif (a_1.Party != b_2.Party) then (some (.inr (a_1.Party, b_2.Party))) else (bif (Op.bytesLess a_1.Action b_2.Action) then (some (.inl (-1))) else (bif (!(Op.bytesLess a_1.Action b_2.Action || a_1.Action == b_2.Action)) then (some (.inl 1)) else (some (.inr (a_1.Amount, b_2.Amount)))))) fun u4 : Int × Int => some (.inr (u4.1, u4.2)))) fun u3 : Int × Int => bif (decide (u3.1 < u3.2)) then (some (-1)) else (bif (decide (u3.1 > u3.2)) then (some 1) else (some 0))
noncomputable def spec_l1In (x_1 : Int) (a_2 : Int) (b_3 : Int) : Option Bool :=
  letJ (bif (decide (x_1 ≥ a_2)) then ((decide (x_1 ≤ b_3))) else (false)) fun u4 : Bool => some u4
noncomputable def spec_l3Good (day_1 : Int) : Option Bool :=
  (spec_l1In day_1 0 36524).bind fun r2 => some r2
noncomputable def spec_l5Sign (b_1 : Int) : Option Bool :=
  letJ (bif (decide (b_1 ≥ 97)) then (letJ (bif (decide (b_1 ≤ 122)) then (true) else (letJ (bif (decide (b_1 ≥ 48)) then ((decide (b_1 ≤ 57))) else (false)) fun u4 : Bool => u4)) fun u3 : Bool => u3) else (letJ (bif (decide (b_1 ≥ 48)) then ((decide (b_1 ≤ 57))) else (false)) fun u5 : Bool => u5)) fun u2 : Bool => some u2
noncomputable def spec_l5Name_la_F (s_1 : Str)  (self : Int → Option (Bool ⊕ Unit)) (x4 : Int) : Option (Bool ⊕ Unit) :=
  bif (decide (x4 < (len s_1))) then ((getI s_1 x4).bind fun c5 => (spec_l5Sign (c5.toNat : Int)).bind fun r6 => bif (!r6) then (some (.inl false)) else (self (w64 (x4 + 1)))) else (some (.inr ()))
noncomputable def spec_l5Name_la (s_1 : Str)  : Int → Option (Bool ⊕ Unit) := fixO (spec_l5Name_la_F s_1)
theorem spec_l5Name_la_fin (s_1 : Str)  : ∀ a, Fin1 fun f => spec_l5Name_la_F s_1 f a := by
  intro a
  unfold spec_l5Name_la_F
  repeat first | exact f_const | exact f_self | refine f_cond ?_ ?_ | refine f_bindJ ?_ (fun _ => ?_) | refine f_bindL ?_ (fun _ => ?_) | refine f_bind ?_ (fun _ => ?_) | refine f_letJ (fun _ => ?_)
theorem spec_l5Name_la_eq (s_1 : Str)  (x : Int) : spec_l5Name_la s_1 x = spec_l5Name_la_F s_1 (spec_l5Name_la s_1) x := fix_eq (spec_l5Name_la_fin s_1) x
noncomputable def spec_l5Name (s_1 : Str) : Option Bool :=
  (spec_l1In (len s_1) 1 8).bind fun r2 => bindJ (ρ := Bool) (bif (!r2) then (some (.inr true)) else ((getI s_1 0).bind fun c16 => bindL (ρ := Bool) (bif (decide ((c16.toNat : Int) < 97)) then (some (.inr true)) else ((getI s_1 0).bind fun c18 => some (.inr (decide ((c18.toNat : Int) > 122))))) fun u17 : Bool => some (.inr u17))) fun u3 : Bool => bif u3 then (some false) else (bindJ (ρ := Bool) (spec_l5Name_la s_1 0) fun u7 : Unit => letJ (bif (s_1 == ([116, 114, 117, 101] : Str)) then ((s_1 == ([116, 114, 117, 101] : Str))) else (letJ (bif (s_1 == ([102, 114, 111, 109] : Str)) then ((s_1 == ([102, 114, 111, 109] : Str))) else (letJ (bif (s_1 == ([110, 111, 116] : Str)) then ((s_1 == ([110, 111, 116] : Str))) else (letJ (bif (s_1 == ([97, 110, 100] : Str)) then ((s_1 == ([97, 110, 100] : Str))) else (letJ (bif (s_1 == ([111, 114] : Str)) then ((s_1 == ([111, 114] : Str))) else (letJ (bif (s_1 == ([98, 111, 116, 104] : Str)) then ((s_1 == ([98, 111, 116, 104] : Str))) else (letJ (bif (s_1 == ([101, 105, 116, 104, 101, 114] : Str)) then ((s_1 == ([101, 105, 116, 104, 101, 114] : Str))) else (letJ (bif (s_1 == ([105, 116] : Str)) then ((s_1 == ([105, 116] : Str))) else ((s_1 == ([105, 110] : Str)))) fun u15 : Bool => u15)) fun u14 : Bool => u14)) fun u13 : Bool => u13)) fun u12 : Bool => u12)) fun u11 : Bool => u11)) fun u10 : Bool => u10)) fun u9 : Bool => u9)) fun u8 : Bool => bif u8 then (some false) else (some true))
noncomputable def spec_l8Event (e_1 : Event) (parties_2 : Int) : Option Bool :=
  (spec_l3Good e_1.Day).bind fun r3 => bindJ (ρ := Bool) (bif r3 then ((spec_l1In e_1.Party 0 (w64 (parties_2 - 1))).bind fun r5 => bindL (ρ := Bool) (bif r5 then ((spec_l5Name e_1.Action).bind fun r7 => bindL (ρ := Bool) (bif r7 then ((spec_l1In e_1.Amount 0 1000000).bind fun r9 => some (.inr r9)) else (some (.inr false))) fun u8 : Bool => some (.inr u8)) else (some (.inr false))) fun u6 : Bool => some (.inr u6)) else (some (.inr false))) fun u4 : Bool => some u4
noncomputable def spec_l8Valid_la_F (list_1 : List Event) (parties_2 : Int)  (self : Int → Option (Bool ⊕ Unit)) (x3 : Int) : Option (Bool ⊕ Unit) :=
  letJ (bif (decide (x3 < (len list_1))) then ((decide (x3 ≤ 40))) else (false)) fun u4 : Bool => bif u4 then ((getI list_1 x3).bind fun e5 => (spec_l8Event e5 parties_2).bind fun r6 => bif (!r6) then (some (.inl false)) else (self (w64 (x3 + 1)))) else (some (.inr ()))
noncomputable def spec_l8Valid_la (list_1 : List Event) (parties_2 : Int)  : Int → Option (Bool ⊕ Unit) := fixO (spec_l8Valid_la_F list_1 parties_2)
theorem spec_l8Valid_la_fin (list_1 : List Event) (parties_2 : Int)  : ∀ a, Fin1 fun f => spec_l8Valid_la_F list_1 parties_2 f a := by
  intro a
  unfold spec_l8Valid_la_F
  repeat first | exact f_const | exact f_self | refine f_cond ?_ ?_ | refine f_bindJ ?_ (fun _ => ?_) | refine f_bindL ?_ (fun _ => ?_) | refine f_bind ?_ (fun _ => ?_) | refine f_letJ (fun _ => ?_)
theorem spec_l8Valid_la_eq (list_1 : List Event) (parties_2 : Int)  (x : Int) : spec_l8Valid_la list_1 parties_2 x = spec_l8Valid_la_F list_1 parties_2 (spec_l8Valid_la list_1 parties_2) x := fix_eq (spec_l8Valid_la_fin list_1 parties_2) x
noncomputable def spec_l8Valid (list_1 : List Event) (parties_2 : Int) : Option Bool :=
  bindJ (ρ := Bool) (spec_l8Valid_la list_1 parties_2 0) fun u7 : Unit => bindJ (ρ := Bool) (bif (decide ((len list_1) ≤ 40)) then ((spec_l1In parties_2 2 4).bind fun r9 => some (.inr r9)) else (some (.inr false))) fun u8 : Bool => some u8
noncomputable def spec_l8Good_la_F (list_1 : List Event) (parties_2 : Int)  (self : Int → Option (Bool ⊕ Unit)) (x3 : Int) : Option (Bool ⊕ Unit) :=
  letJ (bif (decide (x3 < (len list_1))) then ((decide (x3 ≤ 40))) else (false)) fun u4 : Bool => bif u4 then ((getI list_1 (w64 (x3 - 1))).bind fun e5 => (getI list_1 x3).bind fun e6 => (spec_l8Compare e5 e6).bind fun r7 => bif (decide (r7 > 0)) then (some (.inl false)) else (self (w64 (x3 + 1)))) else (some (.inr ()))
noncomputable def spec_l8Good_la (list_1 : List Event) (parties_2 : Int)  : Int → Option (Bool ⊕ Unit) := fixO (spec_l8Good_la_F list_1 parties_2)
theorem spec_l8Good_la_fin (list_1 : List Event) (parties_2 : Int)  : ∀ a, Fin1 fun f => spec_l8Good_la_F list_1 parties_2 f a := by
  intro a
  unfold spec_l8Good_la_F
  repeat first | exact f_const | exact f_self | refine f_cond ?_ ?_ | refine f_bindJ ?_ (fun _ => ?_) | refine f_bindL ?_ (fun _ => ?_) | refine f_bind ?_ (fun _ => ?_) | refine f_letJ (fun _ => ?_)
theorem spec_l8Good_la_eq (list_1 : List Event) (parties_2 : Int)  (x : Int) : spec_l8Good_la list_1 parties_2 x = spec_l8Good_la_F list_1 parties_2 (spec_l8Good_la list_1 parties_2) x := fix_eq (spec_l8Good_la_fin list_1 parties_2) x
noncomputable def spec_l8Good (list_1 : List Event) (parties_2 : Int) : Option Bool :=
  bindJ (ρ := Bool) (spec_l8Good_la list_1 parties_2 1) fun u8 : Unit => (spec_l8Valid list_1 parties_2).bind fun r9 => some r9
noncomputable def spec_l1Put_la_F (l_8 : List Int) (n_9 : Int)  (self : Int → Option (((List Int)) ⊕ (Int × Int × (List Int)))) (x3 : Int) : Option (((List Int)) ⊕ (Int × Int × (List Int))) :=
  bindL (ρ := (List Int)) (bif (decide (x3 < (len l_8))) then ((getI l_8 x3).bind fun e5 => some (.inr (decide (e5 < n_9)))) else (some (.inr false))) fun u4 : Bool => bif u4 then (self (w64 (x3 + 1))) else (some (.inr (n_9, x3, l_8)))
noncomputable def spec_l1Put_la (l_8 : List Int) (n_9 : Int)  : Int → Option (((List Int)) ⊕ (Int × Int × (List Int))) := fixO (spec_l1Put_la_F l_8 n_9)
theorem spec_l1Put_la_fin (l_8 : List Int) (n_9 : Int)  : ∀ a, Fin1 fun f => spec_l1Put_la_F l_8 n_9 f a := by
  intro a
  unfold spec_l1Put_la_F
  repeat first | exact f_const | exact f_self | refine f_cond ?_ ?_ | refine f_bindJ ?_ (fun _ => ?_) | refine f_bindL ?_ (fun _ => ?_) | refine f_bind ?_ (fun _ => ?_) | refine f_letJ (fun _ => ?_)
theorem spec_l1Put_la_eq (l_8 : List Int) (n_9 : Int)  (x : Int) : spec_l1Put_la l_8 n_9 x = spec_l1Put_la_F l_8 n_9 (spec_l1Put_la l_8 n_9) x := fix_eq (spec_l1Put_la_fin l_8 n_9) x
noncomputable def spec_l1Put (l_8 : List Int) (n_9 : Int) : Option ((List Int)) :=
  bindJ (ρ := (List Int)) (spec_l1Put_la l_8 n_9 0) fun u6 : Int × Int × (List Int) => bindJ (ρ := (List Int)) (bif (decide (u6.2.1 < (len u6.2.2))) then ((getI u6.2.2 u6.2.1).bind fun e16 => some (.inr (e16 == u6.1))) else (some (.inr false))) fun u7 : Bool => bif u7 then (some u6.2.2) else ((subP u6.2.2.length 0 u6.2.1).bind fun s8 => (partP u6.2.2 (0 + Int.toNat (0)) (Int.toNat (u6.2.1) - Int.toNat (0))).bind fun p9 => (appI 8 ([] : List Int) p9).bind fun a10 => (appI 8 a10 [u6.1]).bind fun a11 => (subP u6.2.2.length u6.2.1 (len u6.2.2)).bind fun s12 => (partP u6.2.2 (0 + Int.toNat (u6.2.1)) (Int.toNat (len u6.2.2) - Int.toNat (u6.2.1))).bind fun p13 => (appI 8 a11 p13).bind fun a14 => bif Nat.beq u6.2.2.length l_8.length then (some a14) else none)
noncomputable def spec_EventDays_la_F (list_1 : List Event) (parties_2 : Int)  (self : (Int × (List Int)) → Option (((List Int) × Bool) ⊕ ((List Int)))) (x4 : Int × (List Int)) : Option (((List Int) × Bool) ⊕ ((List Int))) :=
  bif (decide (x4.1 < (len list_1))) then ((getI list_1 x4.1).bind fun e5 => (spec_l1Put x4.2 e5.Day).bind fun r6 => self ((w64 (x4.1 + 1)), r6)) else (some (.inr x4.2))
noncomputable def spec_EventDays_la (list_1 : List Event) (parties_2 : Int)  : (Int × (List Int)) → Option (((List Int) × Bool) ⊕ ((List Int))) := fixO (spec_EventDays_la_F list_1 parties_2)
theorem spec_EventDays_la_fin (list_1 : List Event) (parties_2 : Int)  : ∀ a, Fin1 fun f => spec_EventDays_la_F list_1 parties_2 f a := by
  intro a
  unfold spec_EventDays_la_F
  repeat first | exact f_const | exact f_self | refine f_cond ?_ ?_ | refine f_bindJ ?_ (fun _ => ?_) | refine f_bindL ?_ (fun _ => ?_) | refine f_bind ?_ (fun _ => ?_) | refine f_letJ (fun _ => ?_)
theorem spec_EventDays_la_eq (list_1 : List Event) (parties_2 : Int)  (x : Int × (List Int)) : spec_EventDays_la list_1 parties_2 x = spec_EventDays_la_F list_1 parties_2 (spec_EventDays_la list_1 parties_2) x := fix_eq (spec_EventDays_la_fin list_1 parties_2) x
noncomputable def spec_EventDays (list_1 : List Event) (parties_2 : Int) : Option ((List Int) × Bool) :=
  (spec_l8Good list_1 parties_2).bind fun r3 => bif (!r3) then (some ([], false)) else (bindJ (ρ := (List Int) × Bool) (spec_EventDays_la list_1 parties_2 (0, [])) fun u7 : (List Int) => some (u7, true))
noncomputable def impl_within (n_1 : Int) (low_2 : Int) (high_3 : Int) : Option Bool :=
  letJ (bif (decide (n_1 ≥ low_2)) then ((decide (n_1 ≤ high_3))) else (false)) fun u4 : Bool => some u4
noncomputable def impl_isDay (day_1 : Int) : Option Bool :=
  (impl_within day_1 0 36524).bind fun r2 => some r2
noncomputable def internal_stringslite_IndexByte (s_1 : Str) (c_2 : Int) : Option Int :=
  (xIndexByteString s_1 c_2).bind fun r3 => some r3
noncomputable def internal_stringslite_Index (s_1 : Str) (substr_2 : Str) : Option Int :=
  letJ (bif ((len substr_2) == 0) then (true) else ((substr_2 == s_1))) fun u3 : Bool => bif u3 then (some 0) else (bif ((len substr_2) == 1) then ((getI substr_2 0).bind fun c4 => (internal_stringslite_IndexByte s_1 (c4.toNat : Int)).bind fun r5 => some r5) else (bif (decide ((len substr_2) ≥ (len s_1))) then (some (-1)) else (none)))
noncomputable def strings_Index (s_1 : Str) (substr_2 : Str) : Option Int :=
  (internal_stringslite_Index s_1 substr_2).bind fun r3 => some r3
noncomputable def strings_Count_la_F (s_1 : Str) (substr_2 : Str)  (self : (Str × Int) → Option (Int ⊕ Unit)) (x5 : Str × Int) : Option (Int ⊕ Unit) :=
  (strings_Index x5.1 substr_2).bind fun r6 => bif (r6 == (-1)) then (some (.inl x5.2)) else ((subI x5.1 (w64 (r6 + (len substr_2))) (len x5.1)).bind fun s7 => self (s7, (w64 (x5.2 + 1))))
noncomputable def strings_Count_la (s_1 : Str) (substr_2 : Str)  : (Str × Int) → Option (Int ⊕ Unit) := fixO (strings_Count_la_F s_1 substr_2)
theorem strings_Count_la_fin (s_1 : Str) (substr_2 : Str)  : ∀ a, Fin1 fun f => strings_Count_la_F s_1 substr_2 f a := by
  intro a
  unfold strings_Count_la_F
  repeat first | exact f_const | exact f_self | refine f_cond ?_ ?_ | refine f_bindJ ?_ (fun _ => ?_) | refine f_bindL ?_ (fun _ => ?_) | refine f_bind ?_ (fun _ => ?_) | refine f_letJ (fun _ => ?_)
theorem strings_Count_la_eq (s_1 : Str) (substr_2 : Str)  (x : Str × Int) : strings_Count_la s_1 substr_2 x = strings_Count_la_F s_1 substr_2 (strings_Count_la s_1 substr_2) x := fix_eq (strings_Count_la_fin s_1 substr_2) x
noncomputable def strings_Count (s_1 : Str) (substr_2 : Str) : Option Int :=
  bif ((len substr_2) == 0) then (none) else (bif ((len substr_2) == 1) then ((getI substr_2 0).bind fun c3 => (xCountString s_1 (c3.toNat : Int)).bind fun r4 => some r4) else (bindJ (ρ := Int) (strings_Count_la s_1 substr_2 (s_1, 0)) fun u8 : Unit => none))
noncomputable def strings_genSplit_la_F (s_1 : Str) (sep_2 : Str) (sepSave_3 : Int) (n_4 : Int) (u5 : Int) (self : (Str × Int × (List Str)) → Option (((List Str)) ⊕ (Str × Int × (List Str)))) (x7 : Str × Int × (List Str)) : Option (((List Str)) ⊕ (Str × Int × (List Str))) :=
  bif (decide (x7.2.1 < (w64 ((if (w64 ((len s_1) + 1)) < u5 then (w64 ((len s_1) + 1)) else u5) - 1)))) then ((strings_Index x7.1 sep_2).bind fun r8 => bif (decide (r8 < 0)) then (some (.inr (x7.1, x7.2.1, x7.2.2))) else ((subI x7.1 0 (w64 (r8 + sepSave_3))).bind fun s9 => (getI x7.2.2 x7.2.1).bind fun e10 => (subI x7.1 (w64 (r8 + (len sep_2))) (len x7.1)).bind fun s11 => self (s11, (w64 (x7.2.1 + 1)), (setI x7.2.2 x7.2.1 s9)))) else (some (.inr (x7.1, x7.2.1, x7.2.2)))
noncomputable def strings_genSplit_la (s_1 : Str) (sep_2 : Str) (sepSave_3 : Int) (n_4 : Int) (u5 : Int) : (Str × Int × (List Str)) → Option (((List Str)) ⊕ (Str × Int × (List Str))) := fixO (strings_genSplit_la_F s_1 sep_2 sepSave_3 n_4 u5)
theorem strings_genSplit_la_fin (s_1 : Str) (sep_2 : Str) (sepSave_3 : Int) (n_4 : Int) (u5 : Int) : ∀ a, Fin1 fun f => strings_genSplit_la_F s_1 sep_2 sepSave_3 n_4 u5 f a := by
  intro a
  unfold strings_genSplit_la_F
  repeat first | exact f_const | exact f_self | refine f_cond ?_ ?_ | refine f_bindJ ?_ (fun _ => ?_) | refine f_bindL ?_ (fun _ => ?_) | refine f_bind ?_ (fun _ => ?_) | refine f_letJ (fun _ => ?_)
theorem strings_genSplit_la_eq (s_1 : Str) (sep_2 : Str) (sepSave_3 : Int) (n_4 : Int) (u5 : Int) (x : Str × Int × (List Str)) : strings_genSplit_la s_1 sep_2 sepSave_3 n_4 u5 x = strings_genSplit_la_F s_1 sep_2 sepSave_3 n_4 u5 (strings_genSplit_la s_1 sep_2 sepSave_3 n_4 u5) x := fix_eq (strings_genSplit_la_fin s_1 sep_2 sepSave_3 n_4 u5) x
noncomputable def strings_genSplit (s_1 : Str) (sep_2 : Str) (sepSave_3 : Int) (n_4 : Int) : Option ((List Str)) :=
  bif (n_4 == 0) then (some []) else (bif (sep_2 == ([] : Str)) then (none) else (bindJ (ρ := (List Str)) (bif (decide (n_4 < 0)) then ((strings_Count s_1 sep_2).bind fun r16 => some (.inr (w64 (r16 + 1)))) else (some (.inr n_4))) fun u5 : Int => (mkI 16 [] (if (w64 ((len s_1) + 1)) < u5 then (w64 ((len s_1) + 1)) else u5)).bind fun m6 => bindJ (ρ := (List Str)) (strings_genSplit_la s_1 sep_2 sepSave_3 n_4 u5 (s_1, 0, m6)) fun u12 : Str × Int × (List Str) => (getI u12.2.2 u12.2.1).bind fun e13 => (subP (setI u12.2.2 u12.2.1 u12.1).length 0 (w64 (u12.2.1 + 1))).bind fun s14 => (partP (setI u12.2.2 u12.2.1 u12.1) (0 + Int.toNat (0)) (Int.toNat ((w64 (u12.2.1 + 1))) - Int.toNat (0))).bind fun p15 => some p15))
noncomputable def strings_Split (s_1 : Str) (sep_2 : Str) : Option ((List Str)) :=
  (strings_genSplit s_1 sep_2 0 (-1)).bind fun r3 => some r3
noncomputable def slices_Index_string_string_la_F (s_1 : List Str) (v_2 : Str)  (self : Int → Option (Int ⊕ Unit)) (x3 : Int) : Option (Int ⊕ Unit) :=
  bif (decide (x3 < (len s_1))) then ((getI s_1 x3).bind fun e4 => bif (v_2 == e4) then (some (.inl x3)) else (self (w64 (x3 + 1)))) else (some (.inr ()))
noncomputable def slices_Index_string_string_la (s_1 : List Str) (v_2 : Str)  : Int → Option (Int ⊕ Unit) := fixO (slices_Index_string_string_la_F s_1 v_2)
theorem slices_Index_string_string_la_fin (s_1 : List Str) (v_2 : Str)  : ∀ a, Fin1 fun f => slices_Index_string_string_la_F s_1 v_2 f a := by
  intro a
  unfold slices_Index_string_string_la_F
  repeat first | exact f_const | exact f_self | refine f_cond ?_ ?_ | refine f_bindJ ?_ (fun _ => ?_) | refine f_bindL ?_ (fun _ => ?_) | refine f_bind ?_ (fun _ => ?_) | refine f_letJ (fun _ => ?_)
theorem slices_Index_string_string_la_eq (s_1 : List Str) (v_2 : Str)  (x : Int) : slices_Index_string_string_la s_1 v_2 x = slices_Index_string_string_la_F s_1 v_2 (slices_Index_string_string_la s_1 v_2) x := fix_eq (slices_Index_string_string_la_fin s_1 v_2) x
noncomputable def slices_Index_string_string (s_1 : List Str) (v_2 : Str) : Option Int :=
  bindJ (ρ := Int) (slices_Index_string_string_la s_1 v_2 0) fun u5 : Unit => some (-1)
noncomputable def slices_Contains_string_string (s_1 : List Str) (v_2 : Str) : Option Bool :=
  (slices_Index_string_string s_1 v_2).bind fun r3 => some (decide (r3 ≥ 0))
noncomputable def impl_IsValidName_la_F (s_1 : Str)  (self : Int → Option (Bool ⊕ Unit)) (x4 : Int) : Option (Bool ⊕ Unit) :=
  bif (decide (x4 < (len s_1))) then ((getI s_1 x4).bind fun c5 => letJ (bif (decide ((c5.toNat : Int) < 97)) then (letJ (bif (decide ((c5.toNat : Int) < 48)) then (true) else ((decide ((c5.toNat : Int) > 57)))) fun u7 : Bool => u7) else (letJ (bif (decide ((c5.toNat : Int) > 122)) then (letJ (bif (decide ((c5.toNat : Int) < 48)) then (true) else ((decide ((c5.toNat : Int) > 57)))) fun u9 : Bool => u9) else (false)) fun u8 : Bool => u8)) fun u6 : Bool => bif u6 then (some (.inl false)) else (self (w64 (x4 + 1)))) else (some (.inr ()))
noncomputable def impl_IsValidName_la (s_1 : Str)  : Int → Option (Bool ⊕ Unit) := fixO (impl_IsValidName_la_F s_1)
theorem impl_IsValidName_la_fin (s_1 : Str)  : ∀ a, Fin1 fun f => impl_IsValidName_la_F s_1 f a := by
  intro a
  unfold impl_IsValidName_la_F
  repeat first | exact f_const | exact f_self | refine f_cond ?_ ?_ | refine f_bindJ ?_ (fun _ => ?_) | refine f_bindL ?_ (fun _ => ?_) | refine f_bind ?_ (fun _ => ?_) | refine f_letJ (fun _ => ?_)
theorem impl_IsValidName_la_eq (s_1 : Str)  (x : Int) : impl_IsValidName_la s_1 x = impl_IsValidName_la_F s_1 (impl_IsValidName_la s_1) x := fix_eq (impl_IsValidName_la_fin s_1) x
noncomputable def impl_IsValidName (s_1 : Str) : Option Bool :=
  (impl_within (len s_1) 1 8).bind fun r2 => bindJ (ρ := Bool) (bif (!r2) then (some (.inr true)) else ((getI s_1 0).bind fun c13 => bindL (ρ := Bool) (bif (decide ((c13.toNat : Int) < 97)) then (some (.inr true)) else ((getI s_1 0).bind fun c15 => some (.inr (decide ((c15.toNat : Int) > 122))))) fun u14 : Bool => some (.inr u14))) fun u3 : Bool => bif u3 then (some false) else (bindJ (ρ := Bool) (impl_IsValidName_la s_1 0) fun u10 : Unit => (strings_Split ([116, 114, 117, 101, 32, 102, 114, 111, 109, 32, 110, 111, 116, 32, 97, 110, 100, 32, 111, 114, 32, 98, 111, 116, 104, 32, 101, 105, 116, 104, 101, 114, 32, 105, 116, 32, 105, 110] : Str) ([32] : Str)).bind fun r11 => (slices_Contains_string_string r11 s_1).bind fun r12 => some (!r12))
noncomputable def impl_isEvent (e_1 : Event) (parties_2 : Int) : Option Bool :=
  (impl_isDay e_1.Day).bind fun r3 => bindJ (ρ := Bool) (bif r3 then ((impl_within e_1.Party 0 (w64 (parties_2 - 1))).bind fun r5 => bindL (ρ := Bool) (bif r5 then ((impl_IsValidName e_1.Action).bind fun r7 => bindL (ρ := Bool) (bif r7 then ((impl_within e_1.Amount 0 1000000).bind fun r9 => some (.inr r9)) else (some (.inr false))) fun u8 : Bool => some (.inr u8)) else (some (.inr false))) fun u6 : Bool => some (.inr u6)) else (some (.inr false))) fun u4 : Bool => some u4
noncomputable def impl_areEvents_1 (e_1 : Event) (a_2 : Int) : Option Bool :=
  (impl_isEvent e_1 a_2).bind fun r3 => some (!r3)
noncomputable def slices_IndexFunc_impl_Event_impl_Event_w_impl_areEvents_1_la_F (s_1 : List Event) (f_2 : Int)  (self : Int → Option (Int ⊕ Unit)) (x3 : Int) : Option (Int ⊕ Unit) :=
  bif (decide (x3 < (len s_1))) then ((getI s_1 x3).bind fun e4 => (impl_areEvents_1 e4 f_2).bind fun r5 => bif r5 then (some (.inl x3)) else (self (w64 (x3 + 1)))) else (some (.inr ()))
noncomputable def slices_IndexFunc_impl_Event_impl_Event_w_impl_areEvents_1_la (s_1 : List Event) (f_2 : Int)  : Int → Option (Int ⊕ Unit) := fixO (slices_IndexFunc_impl_Event_impl_Event_w_impl_areEvents_1_la_F s_1 f_2)
theorem slices_IndexFunc_impl_Event_impl_Event_w_impl_areEvents_1_la_fin (s_1 : List Event) (f_2 : Int)  : ∀ a, Fin1 fun f => slices_IndexFunc_impl_Event_impl_Event_w_impl_areEvents_1_la_F s_1 f_2 f a := by
  intro a
  unfold slices_IndexFunc_impl_Event_impl_Event_w_impl_areEvents_1_la_F
  repeat first | exact f_const | exact f_self | refine f_cond ?_ ?_ | refine f_bindJ ?_ (fun _ => ?_) | refine f_bindL ?_ (fun _ => ?_) | refine f_bind ?_ (fun _ => ?_) | refine f_letJ (fun _ => ?_)
theorem slices_IndexFunc_impl_Event_impl_Event_w_impl_areEvents_1_la_eq (s_1 : List Event) (f_2 : Int)  (x : Int) : slices_IndexFunc_impl_Event_impl_Event_w_impl_areEvents_1_la s_1 f_2 x = slices_IndexFunc_impl_Event_impl_Event_w_impl_areEvents_1_la_F s_1 f_2 (slices_IndexFunc_impl_Event_impl_Event_w_impl_areEvents_1_la s_1 f_2) x := fix_eq (slices_IndexFunc_impl_Event_impl_Event_w_impl_areEvents_1_la_fin s_1 f_2) x
noncomputable def slices_IndexFunc_impl_Event_impl_Event_w_impl_areEvents_1 (s_1 : List Event) (f_2 : Int) : Option Int :=
  bindJ (ρ := Int) (slices_IndexFunc_impl_Event_impl_Event_w_impl_areEvents_1_la s_1 f_2 0) fun u6 : Unit => some (-1)
noncomputable def slices_ContainsFunc_impl_Event_impl_Event_w_impl_areEvents_1 (s_1 : List Event) (f_2 : Int) : Option Bool :=
  (slices_IndexFunc_impl_Event_impl_Event_w_impl_areEvents_1 s_1 f_2).bind fun r3 => some (decide (r3 ≥ 0))
noncomputable def impl_areEvents (list_1 : List Event) (parties_2 : Int) : Option Bool :=
  (impl_within parties_2 2 4).bind fun r3 => bindJ (ρ := Bool) (bif r3 then (bindL (ρ := Bool) (bif (decide ((len list_1) ≤ 40)) then ((slices_ContainsFunc_impl_Event_impl_Event_w_impl_areEvents_1 list_1 parties_2).bind fun r6 => some (.inr (!r6))) else (some (.inr false))) fun u5 : Bool => some (.inr u5)) else (some (.inr false))) fun u4 : Bool => some u4
noncomputable def cmp_isNaN_int (x_1 : Int) : Option Bool :=
  some (x_1 != x_1)
noncomputable def cmp_Compare_int (x_1 : Int) (y_2 : Int) : Option Int :=
  (cmp_isNaN_int x_1).bind fun r3 => (cmp_isNaN_int y_2).bind fun r4 => bif r3 then (bif r4 then (some 0) else (some (-1))) else (bif r4 then (some 1) else (bif (decide (x_1 < y_2)) then (some (-1)) else (bif (decide (x_1 > y_2)) then (some 1) else (some 0))))
noncomputable def cmp_isNaN_string (x_1 : Str) : Option Bool :=
  some (!(x_1 == x_1))
noncomputable def cmp_Compare_string (x_1 : Str) (y_2 : Str) : Option Int :=
  (cmp_isNaN_string x_1).bind fun r3 => (cmp_isNaN_string y_2).bind fun r4 => bif r3 then (bif r4 then (some 0) else (some (-1))) else (bif r4 then (some 1) else (bif (Op.bytesLess x_1 y_2) then (some (-1)) else (bif (!(Op.bytesLess x_1 y_2 || x_1 == y_2)) then (some 1) else (some 0))))
noncomputable def cmp_Or_int_la_F (vals_1 : List Int)  (self : Int → Option (Int ⊕ Unit)) (x2 : Int) : Option (Int ⊕ Unit) :=
  bif (decide (x2 < (len vals_1))) then ((getI vals_1 x2).bind fun e3 => bif (e3 != 0) then (some (.inl e3)) else (self (w64 (x2 + 1)))) else (some (.inr ()))
noncomputable def cmp_Or_int_la (vals_1 : List Int)  : Int → Option (Int ⊕ Unit) := fixO (cmp_Or_int_la_F vals_1)
theorem cmp_Or_int_la_fin (vals_1 : List Int)  : ∀ a, Fin1 fun f => cmp_Or_int_la_F vals_1 f a := by
  intro a
  unfold cmp_Or_int_la_F
  repeat first | exact f_const | exact f_self | refine f_cond ?_ ?_ | refine f_bindJ ?_ (fun _ => ?_) | refine f_bindL ?_ (fun _ => ?_) | refine f_bind ?_ (fun _ => ?_) | refine f_letJ (fun _ => ?_)
theorem cmp_Or_int_la_eq (vals_1 : List Int)  (x : Int) : cmp_Or_int_la vals_1 x = cmp_Or_int_la_F vals_1 (cmp_Or_int_la vals_1) x := fix_eq (cmp_Or_int_la_fin vals_1) x
noncomputable def cmp_Or_int (vals_1 : List Int) : Option Int :=
  bindJ (ρ := Int) (cmp_Or_int_la vals_1 0) fun u4 : Unit => some 0
noncomputable def impl_CompareEvents (a_1 : Event) (b_2 : Event) : Option Int :=
  (cmp_Compare_int a_1.Day b_2.Day).bind fun r3 => (cmp_Compare_int a_1.Party b_2.Party).bind fun r4 => (cmp_Compare_string a_1.Action b_2.Action).bind fun r5 => (cmp_Compare_int a_1.Amount b_2.Amount).bind fun r6 => (cmp_Or_int [r3, r4, r5, r6]).bind fun r7 => some r7
noncomputable def slices_IsSortedFunc_impl_Event_impl_Event_w_impl_CompareEvents_la_F (x_1 : List Event) (cmp_2 : Unit)  (self : Int → Option (Bool ⊕ Unit)) (x3 : Int) : Option (Bool ⊕ Unit) :=
  bif (decide (x3 > 0)) then ((getI x_1 x3).bind fun e4 => (getI x_1 (w64 (x3 - 1))).bind fun e5 => (impl_CompareEvents e4 e5).bind fun r6 => bif (decide (r6 < 0)) then (some (.inl false)) else (self (w64 (x3 - 1)))) else (some (.inr ()))
noncomputable def slices_IsSortedFunc_impl_Event_impl_Event_w_impl_CompareEvents_la (x_1 : List Event) (cmp_2 : Unit)  : Int → Option (Bool ⊕ Unit) := fixO (slices_IsSortedFunc_impl_Event_impl_Event_w_impl_CompareEvents_la_F x_1 cmp_2)
theorem slices_IsSortedFunc_impl_Event_impl_Event_w_impl_CompareEvents_la_fin (x_1 : List Event) (cmp_2 : Unit)  : ∀ a, Fin1 fun f => slices_IsSortedFunc_impl_Event_impl_Event_w_impl_CompareEvents_la_F x_1 cmp_2 f a := by
  intro a
  unfold slices_IsSortedFunc_impl_Event_impl_Event_w_impl_CompareEvents_la_F
  repeat first | exact f_const | exact f_self | refine f_cond ?_ ?_ | refine f_bindJ ?_ (fun _ => ?_) | refine f_bindL ?_ (fun _ => ?_) | refine f_bind ?_ (fun _ => ?_) | refine f_letJ (fun _ => ?_)
theorem slices_IsSortedFunc_impl_Event_impl_Event_w_impl_CompareEvents_la_eq (x_1 : List Event) (cmp_2 : Unit)  (x : Int) : slices_IsSortedFunc_impl_Event_impl_Event_w_impl_CompareEvents_la x_1 cmp_2 x = slices_IsSortedFunc_impl_Event_impl_Event_w_impl_CompareEvents_la_F x_1 cmp_2 (slices_IsSortedFunc_impl_Event_impl_Event_w_impl_CompareEvents_la x_1 cmp_2) x := fix_eq (slices_IsSortedFunc_impl_Event_impl_Event_w_impl_CompareEvents_la_fin x_1 cmp_2) x
noncomputable def slices_IsSortedFunc_impl_Event_impl_Event_w_impl_CompareEvents (x_1 : List Event) (cmp_2 : Unit) : Option Bool :=
  bindJ (ρ := Bool) (slices_IsSortedFunc_impl_Event_impl_Event_w_impl_CompareEvents_la x_1 cmp_2 (w64 ((len x_1) - 1))) fun u7 : Unit => some true
noncomputable def impl_IsValidEvents (list_1 : List Event) (parties_2 : Int) : Option Bool :=
  (impl_areEvents list_1 parties_2).bind fun r3 => bindJ (ρ := Bool) (bif r3 then ((slices_IsSortedFunc_impl_Event_impl_Event_w_impl_CompareEvents list_1 ()).bind fun r5 => some (.inr r5)) else (some (.inr false))) fun u4 : Bool => some u4
noncomputable def slices_Compact_int_int_lb_F (s_2 : List Int) (x2 : Int) (self : (Int × Int × (List Int)) → Option (((List Int)) ⊕ (Int × (List Int)))) (x6 : Int × Int × (List Int)) : Option (((List Int)) ⊕ (Int × (List Int))) :=
  bif (decide (x6.2.1 < (((Int.toNat (len s_2) - Int.toNat (x2)) : Nat) : Int))) then ((getP x6.2.2 (0 + Int.toNat (x2)) (Int.toNat (len s_2) - Int.toNat (x2)) x6.2.1).bind fun e7 => (getP x6.2.2 (0 + Int.toNat (x2)) (Int.toNat (len s_2) - Int.toNat (x2)) (w64 (x6.2.1 - 1))).bind fun e8 => bindL (ρ := (List Int)) (bif (e7 != e8) then ((getP x6.2.2 (0 + Int.toNat (x2)) (Int.toNat (len s_2) - Int.toNat (x2)) x6.2.1).bind fun e10 => (getI x6.2.2 x6.1).bind fun e11 => some (.inr ((w64 (x6.1 + 1)), (setI x6.2.2 x6.1 e10)))) else (some (.inr (x6.1, x6.2.2)))) fun u9 : Int × (List Int) => self (u9.1, (w64 (x6.2.1 + 1)), u9.2)) else (some (.inr (x6.1, x6.2.2)))
noncomputable def slices_Compact_int_int_lb (s_2 : List Int) (x2 : Int) : (Int × Int × (List Int)) → Option (((List Int)) ⊕ (Int × (List Int))) := fixO (slices_Compact_int_int_lb_F s_2 x2)
theorem slices_Compact_int_int_lb_fin (s_2 : List Int) (x2 : Int) : ∀ a, Fin1 fun f => slices_Compact_int_int_lb_F s_2 x2 f a := by
  intro a
  unfold slices_Compact_int_int_lb_F
  repeat first | exact f_const | exact f_self | refine f_cond ?_ ?_ | refine f_bindJ ?_ (fun _ => ?_) | refine f_bindL ?_ (fun _ => ?_) | refine f_bind ?_ (fun _ => ?_) | refine f_letJ (fun _ => ?_)
theorem slices_Compact_int_int_lb_eq (s_2 : List Int) (x2 : Int) (x : Int × Int × (List Int)) : slices_Compact_int_int_lb s_2 x2 x = slices_Compact_int_int_lb_F s_2 x2 (slices_Compact_int_int_lb s_2 x2) x := fix_eq (slices_Compact_int_int_lb_fin s_2 x2) x
noncomputable def slices_Compact_int_int_la_F (s_2 : List Int)  (self : Int → Option (((List Int)) ⊕ ((List Int)))) (x2 : Int) : Option (((List Int)) ⊕ ((List Int))) :=
  bif (decide (x2 < (len s_2))) then ((getI s_2 x2).bind fun e3 => (getI s_2 (w64 (x2 - 1))).bind fun e4 => bif (e3 == e4) then ((subP s_2.length x2 (len s_2)).bind fun s5 => bindL (ρ := (List Int)) (slices_Compact_int_int_lb s_2 x2 (x2, 1, s_2)) fun u15 : Int × (List Int) => (subP u15.2.length u15.1 (len u15.2)).bind fun s16 => (clrP u15.2 (0 + Int.toNat (u15.1)) (Int.toNat (len u15.2) - Int.toNat (u15.1)) 0).bind fun k17 => (subP k17.length 0 u15.1).bind fun s18 => (partP k17 (0 + Int.toNat (0)) (Int.toNat (u15.1) - Int.toNat (0))).bind fun p19 => some (.inl p19)) else (self (w64 (x2 + 1)))) else (some (.inr s_2))
noncomputable def slices_Compact_int_int_la (s_2 : List Int)  : Int → Option (((List Int)) ⊕ ((List Int))) := fixO (slices_Compact_int_int_la_F s_2)
theorem slices_Compact_int_int_la_fin (s_2 : List Int)  : ∀ a, Fin1 fun f => slices_Compact_int_int_la_F s_2 f a := by
  intro a
  unfold slices_Compact_int_int_la_F
  repeat first | exact f_const | exact f_self | refine f_cond ?_ ?_ | refine f_bindJ ?_ (fun _ => ?_) | refine f_bindL ?_ (fun _ => ?_) | refine f_bind ?_ (fun _ => ?_) | refine f_letJ (fun _ => ?_)
theorem slices_Compact_int_int_la_eq (s_2 : List Int)  (x : Int) : slices_Compact_int_int_la s_2 x = slices_Compact_int_int_la_F s_2 (slices_Compact_int_int_la s_2) x := fix_eq (slices_Compact_int_int_la_fin s_2) x
noncomputable def slices_Compact_int_int (s_2 : List Int) : Option ((List Int)) :=
  bif (decide ((len s_2) < 2)) then (some s_2) else (bindJ (ρ := (List Int)) (slices_Compact_int_int_la s_2 1) fun u20 : (List Int) => some u20)
noncomputable def impl_EventDays_la_F (list_1 : List Event) (parties_2 : Int)  (self : (Int × (List Int)) → Option (((List Int) × Bool) ⊕ ((List Int)))) (x4 : Int × (List Int)) : Option (((List Int) × Bool) ⊕ ((List Int))) :=
  bif (decide (x4.1 < (len list_1))) then ((getI list_1 x4.1).bind fun e5 => (appI 8 x4.2 [e5.Day]).bind fun a6 => self ((w64 (x4.1 + 1)), a6)) else (some (.inr x4.2))
noncomputable def impl_EventDays_la (list_1 : List Event) (parties_2 : Int)  : (Int × (List Int)) → Option (((List Int) × Bool) ⊕ ((List Int))) := fixO (impl_EventDays_la_F list_1 parties_2)
theorem impl_EventDays_la_fin (list_1 : List Event) (parties_2 : Int)  : ∀ a, Fin1 fun f => impl_EventDays_la_F list_1 parties_2 f a := by
  intro a
  unfold impl_EventDays_la_F
  repeat first | exact f_const | exact f_self | refine f_cond ?_ ?_ | refine f_bindJ ?_ (fun _ => ?_) | refine f_bindL ?_ (fun _ => ?_) | refine f_bind ?_ (fun _ => ?_) | refine f_letJ (fun _ => ?_)
theorem impl_EventDays_la_eq (list_1 : List Event) (parties_2 : Int)  (x : Int × (List Int)) : impl_EventDays_la list_1 parties_2 x = impl_EventDays_la_F list_1 parties_2 (impl_EventDays_la list_1 parties_2) x := fix_eq (impl_EventDays_la_fin list_1 parties_2) x
noncomputable def impl_EventDays (list_1 : List Event) (parties_2 : Int) : Option ((List Int) × Bool) :=
  (impl_IsValidEvents list_1 parties_2).bind fun r3 => bif (!r3) then (some ([], false)) else (bindJ (ρ := (List Int) × Bool) (impl_EventDays_la list_1 parties_2 (0, [])) fun u7 : (List Int) => (slices_Compact_int_int u7).bind fun r8 => some (r8, true))
noncomputable def laws_eqIntS_la_F (a_1 : List Int) (b_2 : List Int)  (self : Int → Option (Bool ⊕ Unit)) (x3 : Int) : Option (Bool ⊕ Unit) :=
  bif (decide (x3 < (len a_1))) then ((getI a_1 x3).bind fun e4 => (getI b_2 x3).bind fun e5 => bif (e4 != e5) then (some (.inl false)) else (self (w64 (x3 + 1)))) else (some (.inr ()))
noncomputable def laws_eqIntS_la (a_1 : List Int) (b_2 : List Int)  : Int → Option (Bool ⊕ Unit) := fixO (laws_eqIntS_la_F a_1 b_2)
theorem laws_eqIntS_la_fin (a_1 : List Int) (b_2 : List Int)  : ∀ a, Fin1 fun f => laws_eqIntS_la_F a_1 b_2 f a := by
  intro a
  unfold laws_eqIntS_la_F
  repeat first | exact f_const | exact f_self | refine f_cond ?_ ?_ | refine f_bindJ ?_ (fun _ => ?_) | refine f_bindL ?_ (fun _ => ?_) | refine f_bind ?_ (fun _ => ?_) | refine f_letJ (fun _ => ?_)
theorem laws_eqIntS_la_eq (a_1 : List Int) (b_2 : List Int)  (x : Int) : laws_eqIntS_la a_1 b_2 x = laws_eqIntS_la_F a_1 b_2 (laws_eqIntS_la a_1 b_2) x := fix_eq (laws_eqIntS_la_fin a_1 b_2) x
noncomputable def laws_eqIntS (a_1 : List Int) (b_2 : List Int) : Option Bool :=
  bif ((len a_1) != (len b_2)) then (some false) else (bindJ (ρ := Bool) (laws_eqIntS_la a_1 b_2 0) fun u6 : Unit => some true)
noncomputable def laws_eqEvent (a_1 : Event) (b_2 : Event) : Option Bool :=
  bif (a_1.Day != b_2.Day) then (some false) else (bif (a_1.Party != b_2.Party) then (some false) else (bif (!(a_1.Action == b_2.Action)) then (some false) else (bif (a_1.Amount != b_2.Amount) then (some false) else (some true))))
noncomputable def laws_eqEventS_la_F (a_1 : List Event) (b_2 : List Event)  (self : Int → Option (Bool ⊕ Unit)) (x3 : Int) : Option (Bool ⊕ Unit) :=
  bif (decide (x3 < (len a_1))) then ((getI a_1 x3).bind fun e4 => (getI b_2 x3).bind fun e5 => (laws_eqEvent e4 e5).bind fun r6 => bif (!r6) then (some (.inl false)) else (self (w64 (x3 + 1)))) else (some (.inr ()))
noncomputable def laws_eqEventS_la (a_1 : List Event) (b_2 : List Event)  : Int → Option (Bool ⊕ Unit) := fixO (laws_eqEventS_la_F a_1 b_2)
theorem laws_eqEventS_la_fin (a_1 : List Event) (b_2 : List Event)  : ∀ a, Fin1 fun f => laws_eqEventS_la_F a_1 b_2 f a := by
  intro a
  unfold laws_eqEventS_la_F
  repeat first | exact f_const | exact f_self | refine f_cond ?_ ?_ | refine f_bindJ ?_ (fun _ => ?_) | refine f_bindL ?_ (fun _ => ?_) | refine f_bind ?_ (fun _ => ?_) | refine f_letJ (fun _ => ?_)
theorem laws_eqEventS_la_eq (a_1 : List Event) (b_2 : List Event)  (x : Int) : laws_eqEventS_la a_1 b_2 x = laws_eqEventS_la_F a_1 b_2 (laws_eqEventS_la a_1 b_2) x := fix_eq (laws_eqEventS_la_fin a_1 b_2) x
noncomputable def laws_eqEventS (a_1 : List Event) (b_2 : List Event) : Option Bool :=
  bif ((len a_1) != (len b_2)) then (some false) else (bindJ (ρ := Bool) (laws_eqEventS_la a_1 b_2 0) fun u7 : Unit => some true)
noncomputable def laws_markText_la_F (k_1 : Int)  (self : (Int × Str) → Option (Str ⊕ Str)) (x2 : Int × Str) : Option (Str ⊕ Str) :=
  bif (decide (x2.1 > 0)) then ((catS ([(IntKind.u8.wrap (w64 (48 + (x2.1.tmod 10))))].map fun n => UInt8.ofNat n.toNat) x2.2).bind fun s3 => self ((w64 (x2.1.tdiv 10)), s3)) else (some (.inr x2.2))
noncomputable def laws_markText_la (k_1 : Int)  : (Int × Str) → Option (Str ⊕ Str) := fixO (laws_markText_la_F k_1)
theorem laws_markText_la_fin (k_1 : Int)  : ∀ a, Fin1 fun f => laws_markText_la_F k_1 f a := by
  intro a
  unfold laws_markText_la_F
  repeat first | exact f_const | exact f_self | refine f_cond ?_ ?_ | refine f_bindJ ?_ (fun _ => ?_) | refine f_bindL ?_ (fun _ => ?_) | refine f_bind ?_ (fun _ => ?_) | refine f_letJ (fun _ => ?_)
theorem laws_markText_la_eq (k_1 : Int)  (x : Int × Str) : laws_markText_la k_1 x = laws_markText_la_F k_1 (laws_markText_la k_1) x := fix_eq (laws_markText_la_fin k_1) x
noncomputable def laws_markText (k_1 : Int) : Option Str :=
  bif (decide (k_1 ≤ 0)) then (some ([109, 48] : Str)) else (bindJ (ρ := Str) (laws_markText_la k_1 (k_1, ([] : Str))) fun u4 : Str => (catS ([109] : Str) u4).bind fun s5 => some s5)
noncomputable def laws_markEventS_la_F (a_6 : List Event) (k_7 : Int)  (self : (Int × Int × (List Event)) → Option ((Int × (List Event)) ⊕ (Int × (List Event)))) (x3 : Int × Int × (List Event)) : Option ((Int × (List Event)) ⊕ (Int × (List Event))) :=
  bif (decide (x3.2.1 < (len x3.2.2))) then ((getI x3.2.2 x3.2.1).bind fun e4 => (getI (setI x3.2.2 x3.2.1 (Event.mk x3.1 e4.Party e4.Action e4.Amount)) x3.2.1).bind fun e5 => (laws_markText (w64 ((w64 (x3.1 + 1)) + 1))).bind fun r7 => (getI (setI (setI x3.2.2 x3.2.1 (Event.mk x3.1 e4.Party e4.Action e4.Amount)) x3.2.1 (Event.mk e5.Day (w64 (x3.1 + 1)) e5.Action e5.Amount)) x3.2.1).bind fun e8 => (getI (setI (setI (setI x3.2.2 x3.2.1 (Event.mk x3.1 e4.Party e4.Action e4.Amount)) x3.2.1 (Event.mk e5.Day (w64 (x3.1 + 1)) e5.Action e5.Amount)) x3.2.1 (Event.mk e8.Day e8.Party r7 e8.Amount)) x3.2.1).bind fun e11 => self ((w64 ((w64 ((w64 ((w64 (x3.1 + 1)) + 1)) + 1)) + 1)), (w64 (x3.2.1 + 1)), (setI (setI (setI (setI x3.2.2 x3.2.1 (Event.mk x3.1 e4.Party e4.Action e4.Amount)) x3.2.1 (Event.mk e5.Day (w64 (x3.1 + 1)) e5.Action e5.Amount)) x3.2.1 (Event.mk e8.Day e8.Party r7 e8.Amount)) x3.2.1 (Event.mk e11.Day e11.Party e11.Action (w64 ((w64 ((w64 (x3.1 + 1)) + 1)) + 1)))))) else (some (.inr (x3.1, x3.2.2)))
noncomputable def laws_markEventS_la (a_6 : List Event) (k_7 : Int)  : (Int × Int × (List Event)) → Option ((Int × (List Event)) ⊕ (Int × (List Event))) := fixO (laws_markEventS_la_F a_6 k_7)
theorem laws_markEventS_la_fin (a_6 : List Event) (k_7 : Int)  : ∀ a, Fin1 fun f => laws_markEventS_la_F a_6 k_7 f a := by
  intro a
  unfold laws_markEventS_la_F
  repeat first | exact f_const | exact f_self | refine f_cond ?_ ?_ | refine f_bindJ ?_ (fun _ => ?_) | refine f_bindL ?_ (fun _ => ?_) | refine f_bind ?_ (fun _ => ?_) | refine f_letJ (fun _ => ?_)
theorem laws_markEventS_la_eq (a_6 : List Event) (k_7 : Int)  (x : Int × Int × (List Event)) : laws_markEventS_la a_6 k_7 x = laws_markEventS_la_F a_6 k_7 (laws_markEventS_la a_6 k_7) x := fix_eq (laws_markEventS_la_fin a_6 k_7) x
noncomputable def laws_markEventS (a_6 : List Event) (k_7 : Int) : Option (Int × (List Event)) :=
  bindJ (ρ := Int × (List Event)) (laws_markEventS_la a_6 k_7 (k_7, 0, a_6)) fun u15 : Int × (List Event) => bif Nat.beq u15.2.length a_6.length then (some (u15.1, u15.2)) else none
noncomputable def laws_markIntS_la_F (a_6 : List Int) (k_7 : Int)  (self : (Int × Int × (List Int)) → Option ((Int × (List Int)) ⊕ (Int × (List Int)))) (x3 : Int × Int × (List Int)) : Option ((Int × (List Int)) ⊕ (Int × (List Int))) :=
  bif (decide (x3.2.1 < (len x3.2.2))) then ((getI x3.2.2 x3.2.1).bind fun e4 => self ((w64 (x3.1 + 1)), (w64 (x3.2.1 + 1)), (setI x3.2.2 x3.2.1 x3.1))) else (some (.inr (x3.1, x3.2.2)))
noncomputable def laws_markIntS_la (a_6 : List Int) (k_7 : Int)  : (Int × Int × (List Int)) → Option ((Int × (List Int)) ⊕ (Int × (List Int))) := fixO (laws_markIntS_la_F a_6 k_7)
theorem laws_markIntS_la_fin (a_6 : List Int) (k_7 : Int)  : ∀ a, Fin1 fun f => laws_markIntS_la_F a_6 k_7 f a := by
  intro a
  unfold laws_markIntS_la_F
  repeat first | exact f_const | exact f_self | refine f_cond ?_ ?_ | refine f_bindJ ?_ (fun _ => ?_) | refine f_bindL ?_ (fun _ => ?_) | refine f_bind ?_ (fun _ => ?_) | refine f_letJ (fun _ => ?_)
theorem laws_markIntS_la_eq (a_6 : List Int) (k_7 : Int)  (x : Int × Int × (List Int)) : laws_markIntS_la a_6 k_7 x = laws_markIntS_la_F a_6 k_7 (laws_markIntS_la a_6 k_7) x := fix_eq (laws_markIntS_la_fin a_6 k_7) x
noncomputable def laws_markIntS (a_6 : List Int) (k_7 : Int) : Option (Int × (List Int)) :=
  bindJ (ρ := Int × (List Int)) (laws_markIntS_la a_6 k_7 (k_7, 0, a_6)) fun u5 : Int × (List Int) => bif Nat.beq u5.2.length a_6.length then (some (u5.1, u5.2)) else none
noncomputable def laws_heldIntS_la_F (a_1 : List Int) (k_2 : Int)  (self : (Int × Int) → Option (Int ⊕ Int)) (x3 : Int × Int) : Option (Int ⊕ Int) :=
  bif (decide (x3.2 < (len a_1))) then ((getI a_1 x3.2).bind fun e4 => bif (e4 != x3.1) then (some (.inl (-1))) else (self ((w64 (x3.1 + 1)), (w64 (x3.2 + 1))))) else (some (.inr x3.1))
noncomputable def laws_heldIntS_la (a_1 : List Int) (k_2 : Int)  : (Int × Int) → Option (Int ⊕ Int) := fixO (laws_heldIntS_la_F a_1 k_2)
theorem laws_heldIntS_la_fin (a_1 : List Int) (k_2 : Int)  : ∀ a, Fin1 fun f => laws_heldIntS_la_F a_1 k_2 f a := by
  intro a
  unfold laws_heldIntS_la_F
  repeat first | exact f_const | exact f_self | refine f_cond ?_ ?_ | refine f_bindJ ?_ (fun _ => ?_) | refine f_bindL ?_ (fun _ => ?_) | refine f_bind ?_ (fun _ => ?_) | refine f_letJ (fun _ => ?_)
theorem laws_heldIntS_la_eq (a_1 : List Int) (k_2 : Int)  (x : Int × Int) : laws_heldIntS_la a_1 k_2 x = laws_heldIntS_la_F a_1 k_2 (laws_heldIntS_la a_1 k_2) x := fix_eq (laws_heldIntS_la_fin a_1 k_2) x
noncomputable def laws_heldIntS (a_1 : List Int) (k_2 : Int) : Option Int :=
  bindJ (ρ := Int) (laws_heldIntS_la a_1 k_2 (k_2, 0)) fun u5 : Int => some u5
noncomputable def laws_FnExactEventDays (aList_1 : List Event) (aParties_2 : Int) : Option Bool :=
  (laws_szEventS aList_1 1048576).bind fun r3 => bif (decide (r3 < 0)) then (some true) else ((laws_toEventS aList_1).bind fun r4 => (spec_EventDays r4 aParties_2).bind fun r5 => (laws_toEventS aList_1).bind fun r6 => (impl_EventDays r6 aParties_2).bind fun r7 => (laws_eqIntS r7.1 r5.1).bind fun r8 => letJ (bif (!r8) then (true) else ((!(r7.2 == r5.2)))) fun u9 : Bool => bif u9 then (some false) else ((laws_toEventS aList_1).bind fun r10 => (laws_eqEventS r6 r10).bind fun r11 => bif (!r11) then (some false) else ((laws_markEventS r6 1).bind fun r12 => bif Nat.beq r12.2.length r6.length then (bindJ (ρ := Bool) (bif (decide (r12.1 < 0)) then (some (.inr true)) else ((laws_eqIntS r7.1 r5.1).bind fun r23 => letJ (bif (!r23) then (true) else ((!(r7.2 == r5.2)))) fun u24 : Bool => some (.inr u24))) fun u14 : Bool => bif u14 then (some false) else ((laws_markIntS r7.1 1).bind fun r15 => bif Nat.beq r15.2.length r7.1.length then ((laws_heldIntS r15.2 1).bind fun r17 => bif (decide (r17 < 0)) then (some false) else (bif (r17 != r15.1) then (some false) else ((laws_toEventS aList_1).bind fun r18 => (impl_EventDays r18 aParties_2).bind fun r19 => (laws_eqIntS r19.1 r5.1).bind fun r20 => letJ (bif (!r20) then (true) else ((!(r19.2 == r5.2)))) fun u21 : Bool => bif u21 then (some false) else ((laws_heldIntS r15.2 1).bind fun r22 => bif (decide (r22 < 0)) then (some false) else (bif (r22 != r15.1) then (some false) else (some true)))))) else none)) else none)))
end Go.Ln
