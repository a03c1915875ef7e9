/-
  What each function of the law computes, as a plain function.
-/
import Derived.Test.YtgcnameabpnpaaaLnE
set_option linter.unusedVariables false
set_option linter.unusedSimpArgs false
namespace Go.Ln
open Go
structure Duty where
  Clause : Int
  Since : Int
  Due : Int
  Status : Int
def enc_Duty (x : Duty) : V := .agg [I (x.Clause), I (x.Since), I (x.Due), I (x.Status)]
theorem enc_Duty_cells (x : Duty) : (cells (enc_Duty x)).length = 4 ∧ (cells (enc_Duty x)).all cellV = true := ⟨rfl, rfl⟩
theorem enc_Duty_imm (x : Duty) : imm (enc_Duty x) = enc_Duty x := rfl
theorem enc_Duty_himm (x : Duty) : hasImm (enc_Duty x) = false := rfl
theorem enc_Duty_flat (x : Duty) : flatE (enc_Duty x) = true := rfl
theorem enc_Duty_inj (a b : Duty) (h : enc_Duty a = enc_Duty b) : a = b := by
  obtain ⟨p0, p1, p2, p3⟩ := a
  obtain ⟨q0, q1, q2, q3⟩ := b
  replace h := V.agg.inj h
  obtain ⟨h0, h⟩ := List.cons.inj h
  obtain rfl := I_inj p0 q0 h0
  obtain ⟨h1, h⟩ := List.cons.inj h
  obtain rfl := I_inj p1 q1 h1
  obtain ⟨h2, h⟩ := List.cons.inj h
  obtain rfl := I_inj p2 q2 h2
  obtain ⟨h3, h⟩ := List.cons.inj h
  obtain rfl := I_inj p3 q3 h3
  rfl
structure State where
  Day : Int
  Facts : List Str
  Duties : List Duty
  Balances : List Int
  Over : Bool
def encI_State (x : State) : V := .agg [I (x.Day), .isl false ((x.Facts).map str), .isl false ((x.Duties).map enc_Duty), .isl false ((x.Balances).map I), B (x.Over)]
theorem encI_State_cells (x : State) : (cells (encI_State x)).length = 5 ∧ (cells (encI_State x)).all cellV = true := ⟨rfl, rfl⟩
theorem encI_State_inj (a b : State) (h : encI_State a = encI_State b) : a = b := by
  obtain ⟨p0, p1, p2, p3, p4⟩ := a
  obtain ⟨q0, q1, q2, q3, q4⟩ := b
  replace h := V.agg.inj h
  obtain ⟨h0, h⟩ := List.cons.inj h
  obtain rfl := I_inj p0 q0 h0
  obtain ⟨h1, h⟩ := List.cons.inj h
  obtain rfl := isl_inj str_inj p1 q1 h1
  obtain ⟨h2, h⟩ := List.cons.inj h
  obtain rfl := isl_inj enc_Duty_inj p2 q2 h2
  obtain ⟨h3, h⟩ := List.cons.inj h
  obtain rfl := isl_inj I_inj p3 q3 h3
  obtain ⟨h4, h⟩ := List.cons.inj h
  obtain rfl := B_inj p4 q4 h4
  rfl
def encO_State (x : State) : V := .agg [I (x.Day), .usl 1 ((x.Facts).map str), .usl 4 ((x.Duties).map enc_Duty), .usl 1 ((x.Balances).map I), B (x.Over)]
theorem encO_State_cells (x : State) : (cells (encO_State x)).length = 5 ∧ (cells (encO_State x)).all cellV = true := ⟨rfl, rfl⟩
theorem encO_State_imm (x : State) : imm (encO_State x) = encI_State x := by simp [encO_State, encI_State, imm, imms, imms_of str_imm, imms_of enc_Duty_imm, imms_of I_imm]
theorem encO_State_himm (x : State) : hasImm (encO_State x) = false := by simp [encO_State, hasImm, hasImms, himm_map str_himm, himm_map enc_Duty_himm, himm_map I_himm]
def ok_Duty (x : Duty) : Prop := I64 x.Clause ∧ I64 x.Since ∧ I64 x.Due ∧ I64 x.Status
def ok_State (x : State) : Prop := I64 x.Day ∧ (okL okS) x.Facts ∧ (okL ok_Duty) x.Duties ∧ (okL I64) x.Balances ∧ okB x.Over
noncomputable def laws_szStringS_la_F (a_1 : List Str) (left_2 : Int)  (self : (Int × Int) → Option (Int ⊕ Int)) (x3 : Int × Int) : Option (Int ⊕ Int) :=
  bif (decide (x3.2 < (len a_1))) then ((getI a_1 x3.2).bind fun e4 => bif (decide ((w64 (x3.1 - (len e4))) < 0)) then (some (.inl (-1))) else (self ((w64 (x3.1 - (len e4))), (w64 (x3.2 + 1))))) else (some (.inr x3.1))
noncomputable def laws_szStringS_la (a_1 : List Str) (left_2 : Int)  : (Int × Int) → Option (Int ⊕ Int) := fixO (laws_szStringS_la_F a_1 left_2)
theorem laws_szStringS_la_fin (a_1 : List Str) (left_2 : Int)  : ∀ a, Fin1 fun f => laws_szStringS_la_F a_1 left_2 f a := by
  intro a
  unfold laws_szStringS_la_F
  repeat first | exact f_const | exact f_self | refine f_cond ?_ ?_ | refine f_bindJ ?_ (fun _ => ?_) | refine f_bindL ?_ (fun _ => ?_) | refine f_bind ?_ (fun _ => ?_) | refine f_letJ (fun _ => ?_)
theorem laws_szStringS_la_eq (a_1 : List Str) (left_2 : Int)  (x : Int × Int) : laws_szStringS_la a_1 left_2 x = laws_szStringS_la_F a_1 left_2 (laws_szStringS_la a_1 left_2) x := fix_eq (laws_szStringS_la_fin a_1 left_2) x
noncomputable def laws_szStringS (a_1 : List Str) (left_2 : Int) : Option Int :=
  bif (decide ((w64 (left_2 - (len a_1))) < 0)) then (some (-1)) else (bindJ (ρ := Int) (laws_szStringS_la a_1 left_2 ((w64 (left_2 - (len a_1))), 0)) fun u5 : Int => some u5)
noncomputable def laws_szDutyS (a_1 : List Duty) (left_2 : Int) : Option Int :=
  bif (decide ((w64 (left_2 - (len a_1))) < 0)) then (some (-1)) else (some (w64 (left_2 - (len a_1))))
noncomputable def laws_szIntS (a_1 : List Int) (left_2 : Int) : Option Int :=
  bif (decide ((w64 (left_2 - (len a_1))) < 0)) then (some (-1)) else (some (w64 (left_2 - (len a_1))))
noncomputable def laws_szState (a_1 : State) (left_2 : Int) : Option Int :=
  (laws_szStringS a_1.Facts left_2).bind fun r3 => bif (decide (r3 < 0)) then (some (-1)) else ((laws_szDutyS a_1.Duties r3).bind fun r4 => bif (decide (r4 < 0)) then (some (-1)) else ((laws_szIntS a_1.Balances r4).bind fun r5 => bif (decide (r5 < 0)) then (some (-1)) else (some r5)))
noncomputable def laws_toStringS_la_F (a_1 : List Str)  (self : (Int × (List Str)) → Option (((List Str)) ⊕ ((List Str)))) (x3 : Int × (List Str)) : Option (((List Str)) ⊕ ((List Str))) :=
  bif (decide (x3.1 < (len a_1))) then ((getI a_1 x3.1).bind fun e4 => (getI x3.2 x3.1).bind fun e5 => self ((w64 (x3.1 + 1)), (setI x3.2 x3.1 e4))) else (some (.inr x3.2))
noncomputable def laws_toStringS_la (a_1 : List Str)  : (Int × (List Str)) → Option (((List Str)) ⊕ ((List Str))) := fixO (laws_toStringS_la_F a_1)
theorem laws_toStringS_la_fin (a_1 : List Str)  : ∀ a, Fin1 fun f => laws_toStringS_la_F a_1 f a := by
  intro a
  unfold laws_toStringS_la_F
  repeat first | exact f_const | exact f_self | refine f_cond ?_ ?_ | refine f_bindJ ?_ (fun _ => ?_) | refine f_bindL ?_ (fun _ => ?_) | refine f_bind ?_ (fun _ => ?_) | refine f_letJ (fun _ => ?_)
theorem laws_toStringS_la_eq (a_1 : List Str)  (x : Int × (List Str)) : laws_toStringS_la a_1 x = laws_toStringS_la_F a_1 (laws_toStringS_la a_1) x := fix_eq (laws_toStringS_la_fin a_1) x
noncomputable def laws_toStringS (a_1 : List Str) : Option ((List Str)) :=
  (mkI 16 [] (len a_1)).bind fun m2 => bindJ (ρ := (List Str)) (laws_toStringS_la a_1 (0, m2)) fun u6 : (List Str) => some u6
noncomputable def laws_toDuty (a_1 : Duty) : Option Duty :=
  some a_1
noncomputable def laws_toDutyS_la_F (a_1 : List Duty)  (self : (Int × (List Duty)) → Option (((List Duty)) ⊕ ((List Duty)))) (x3 : Int × (List Duty)) : Option (((List Duty)) ⊕ ((List Duty))) :=
  bif (decide (x3.1 < (len a_1))) then ((getI a_1 x3.1).bind fun e4 => (laws_toDuty e4).bind fun r5 => (getI x3.2 x3.1).bind fun e6 => self ((w64 (x3.1 + 1)), (setI x3.2 x3.1 r5))) else (some (.inr x3.2))
noncomputable def laws_toDutyS_la (a_1 : List Duty)  : (Int × (List Duty)) → Option (((List Duty)) ⊕ ((List Duty))) := fixO (laws_toDutyS_la_F a_1)
theorem laws_toDutyS_la_fin (a_1 : List Duty)  : ∀ a, Fin1 fun f => laws_toDutyS_la_F a_1 f a := by
  intro a
  unfold laws_toDutyS_la_F
  repeat first | exact f_const | exact f_self | refine f_cond ?_ ?_ | refine f_bindJ ?_ (fun _ => ?_) | refine f_bindL ?_ (fun _ => ?_) | refine f_bind ?_ (fun _ => ?_) | refine f_letJ (fun _ => ?_)
theorem laws_toDutyS_la_eq (a_1 : List Duty)  (x : Int × (List Duty)) : laws_toDutyS_la a_1 x = laws_toDutyS_la_F a_1 (laws_toDutyS_la a_1) x := fix_eq (laws_toDutyS_la_fin a_1) x
noncomputable def laws_toDutyS (a_1 : List Duty) : Option ((List Duty)) :=
  (mkI 32 (Duty.mk 0 0 0 0) (len a_1)).bind fun m2 => bindJ (ρ := (List Duty)) (laws_toDutyS_la a_1 (0, m2)) fun u7 : (List Duty) => some u7
noncomputable def laws_toIntS_la_F (a_1 : List Int)  (self : (Int × (List Int)) → Option (((List Int)) ⊕ ((List Int)))) (x3 : Int × (List Int)) : Option (((List Int)) ⊕ ((List Int))) :=
  bif (decide (x3.1 < (len a_1))) then ((getI a_1 x3.1).bind fun e4 => (getI x3.2 x3.1).bind fun e5 => self ((w64 (x3.1 + 1)), (setI x3.2 x3.1 e4))) else (some (.inr x3.2))
noncomputable def laws_toIntS_la (a_1 : List Int)  : (Int × (List Int)) → Option (((List Int)) ⊕ ((List Int))) := fixO (laws_toIntS_la_F a_1)
theorem laws_toIntS_la_fin (a_1 : List Int)  : ∀ a, Fin1 fun f => laws_toIntS_la_F a_1 f a := by
  intro a
  unfold laws_toIntS_la_F
  repeat first | exact f_const | exact f_self | refine f_cond ?_ ?_ | refine f_bindJ ?_ (fun _ => ?_) | refine f_bindL ?_ (fun _ => ?_) | refine f_bind ?_ (fun _ => ?_) | refine f_letJ (fun _ => ?_)
theorem laws_toIntS_la_eq (a_1 : List Int)  (x : Int × (List Int)) : laws_toIntS_la a_1 x = laws_toIntS_la_F a_1 (laws_toIntS_la a_1) x := fix_eq (laws_toIntS_la_fin a_1) x
noncomputable def laws_toIntS (a_1 : List Int) : Option ((List Int)) :=
  (mkI 8 0 (len a_1)).bind fun m2 => bindJ (ρ := (List Int)) (laws_toIntS_la a_1 (0, m2)) fun u6 : (List Int) => some u6
noncomputable def laws_toState (a_1 : State) : Option State :=
  (laws_toStringS a_1.Facts).bind fun r2 => (laws_toDutyS a_1.Duties).bind fun r3 => (laws_toIntS a_1.Balances).bind fun r4 => some (State.mk a_1.Day r2 r3 r4 a_1.Over)
noncomputable def spec_l1Same_la_F (a_1 : List Int) (b_2 : List Int)  (self : Int → Option (Bool ⊕ Unit)) (x3 : Int) : Option (Bool ⊕ Unit) :=
  bif (decide (x3 < (len a_1))) then ((getI a_1 x3).bind fun e4 => (getI b_2 x3).bind fun e5 => bif (e4 != e5) then (some (.inl false)) else (self (w64 (x3 + 1)))) else (some (.inr ()))
noncomputable def spec_l1Same_la (a_1 : List Int) (b_2 : List Int)  : Int → Option (Bool ⊕ Unit) := fixO (spec_l1Same_la_F a_1 b_2)
theorem spec_l1Same_la_fin (a_1 : List Int) (b_2 : List Int)  : ∀ a, Fin1 fun f => spec_l1Same_la_F a_1 b_2 f a := by
  intro a
  unfold spec_l1Same_la_F
  repeat first | exact f_const | exact f_self | refine f_cond ?_ ?_ | refine f_bindJ ?_ (fun _ => ?_) | refine f_bindL ?_ (fun _ => ?_) | refine f_bind ?_ (fun _ => ?_) | refine f_letJ (fun _ => ?_)
theorem spec_l1Same_la_eq (a_1 : List Int) (b_2 : List Int)  (x : Int) : spec_l1Same_la a_1 b_2 x = spec_l1Same_la_F a_1 b_2 (spec_l1Same_la a_1 b_2) x := fix_eq (spec_l1Same_la_fin a_1 b_2) x
noncomputable def spec_l1Same (a_1 : List Int) (b_2 : List Int) : Option Bool :=
  bif ((len a_1) != (len b_2)) then (some false) else (bindJ (ρ := Bool) (spec_l1Same_la a_1 b_2 0) fun u6 : Unit => some true)
noncomputable def spec_l9Same_la_F (a_1 : State) (b_2 : State)  (self : Int → Option (Bool ⊕ Unit)) (x4 : Int) : Option (Bool ⊕ Unit) :=
  bif (decide (x4 < (len a_1.Facts))) then ((getI a_1.Facts x4).bind fun e5 => (getI b_2.Facts x4).bind fun e6 => bif (!(e5 == e6)) then (some (.inl false)) else (self (w64 (x4 + 1)))) else (some (.inr ()))
noncomputable def spec_l9Same_la (a_1 : State) (b_2 : State)  : Int → Option (Bool ⊕ Unit) := fixO (spec_l9Same_la_F a_1 b_2)
theorem spec_l9Same_la_fin (a_1 : State) (b_2 : State)  : ∀ a, Fin1 fun f => spec_l9Same_la_F a_1 b_2 f a := by
  intro a
  unfold spec_l9Same_la_F
  repeat first | exact f_const | exact f_self | refine f_cond ?_ ?_ | refine f_bindJ ?_ (fun _ => ?_) | refine f_bindL ?_ (fun _ => ?_) | refine f_bind ?_ (fun _ => ?_) | refine f_letJ (fun _ => ?_)
theorem spec_l9Same_la_eq (a_1 : State) (b_2 : State)  (x : Int) : spec_l9Same_la a_1 b_2 x = spec_l9Same_la_F a_1 b_2 (spec_l9Same_la a_1 b_2) x := fix_eq (spec_l9Same_la_fin a_1 b_2) x
noncomputable def spec_l9Same_lb_F (a_1 : State) (b_2 : State)  (self : Int → Option (Bool ⊕ Unit)) (x8 : Int) : Option (Bool ⊕ Unit) :=
  bif (decide (x8 < (len a_1.Duties))) then ((getI a_1.Duties x8).bind fun e9 => (getI b_2.Duties x8).bind fun e10 => bif (!(e9.Clause == e10.Clause && (e9.Since == e10.Since && (e9.Due == e10.Due && (e9.Status == e10.Status && true))))) then (some (.inl false)) else (self (w64 (x8 + 1)))) else (some (.inr ()))
noncomputable def spec_l9Same_lb (a_1 : State) (b_2 : State)  : Int → Option (Bool ⊕ Unit) := fixO (spec_l9Same_lb_F a_1 b_2)
theorem spec_l9Same_lb_fin (a_1 : State) (b_2 : State)  : ∀ a, Fin1 fun f => spec_l9Same_lb_F a_1 b_2 f a := by
  intro a
  unfold spec_l9Same_lb_F
  repeat first | exact f_const | exact f_self | refine f_cond ?_ ?_ | refine f_bindJ ?_ (fun _ => ?_) | refine f_bindL ?_ (fun _ => ?_) | refine f_bind ?_ (fun _ => ?_) | refine f_letJ (fun _ => ?_)
theorem spec_l9Same_lb_eq (a_1 : State) (b_2 : State)  (x : Int) : spec_l9Same_lb a_1 b_2 x = spec_l9Same_lb_F a_1 b_2 (spec_l9Same_lb a_1 b_2) x := fix_eq (spec_l9Same_lb_fin a_1 b_2) x
noncomputable def spec_l9Same (a_1 : State) (b_2 : State) : Option Bool :=
  bindJ (ρ := Bool) (bif (a_1.Day != b_2.Day) then (some (.inr true)) else (bindL (ρ := Bool) (bif (!(a_1.Over == b_2.Over)) then (some (.inr true)) else (bindL (ρ := Bool) (bif ((len a_1.Facts) != (len b_2.Facts)) then (some (.inr true)) else (bindL (ρ := Bool) (bif ((len a_1.Duties) != (len b_2.Duties)) then (some (.inr true)) else ((spec_l1Same a_1.Balances b_2.Balances).bind fun r15 => some (.inr (!r15)))) fun u14 : Bool => some (.inr u14))) fun u13 : Bool => some (.inr u13))) fun u12 : Bool => some (.inr u12))) fun u3 : Bool => bif u3 then (some false) else (bindJ (ρ := Bool) (spec_l9Same_la a_1 b_2 0) fun u7 : Unit => bindJ (ρ := Bool) (spec_l9Same_lb a_1 b_2 0) fun u11 : Unit => some true)
noncomputable def spec_EqualStates (a_1 : State) (b_2 : State) : Option Bool :=
  (spec_l9Same a_1 b_2).bind fun r3 => some r3
noncomputable def slices_Equal_string_string_la_F (s_1 : List Str) (s_2 : List Str)  (self : Int → Option (Bool ⊕ Unit)) (x3 : Int) : Option (Bool ⊕ Unit) :=
  bif (decide (x3 < (len s_1))) then ((getI s_1 x3).bind fun e4 => (getI s_2 x3).bind fun e5 => bif (!(e4 == e5)) then (some (.inl false)) else (self (w64 (x3 + 1)))) else (some (.inr ()))
noncomputable def slices_Equal_string_string_la (s_1 : List Str) (s_2 : List Str)  : Int → Option (Bool ⊕ Unit) := fixO (slices_Equal_string_string_la_F s_1 s_2)
theorem slices_Equal_string_string_la_fin (s_1 : List Str) (s_2 : List Str)  : ∀ a, Fin1 fun f => slices_Equal_string_string_la_F s_1 s_2 f a := by
  intro a
  unfold slices_Equal_string_string_la_F
  repeat first | exact f_const | exact f_self | refine f_cond ?_ ?_ | refine f_bindJ ?_ (fun _ => ?_) | refine f_bindL ?_ (fun _ => ?_) | refine f_bind ?_ (fun _ => ?_) | refine f_letJ (fun _ => ?_)
theorem slices_Equal_string_string_la_eq (s_1 : List Str) (s_2 : List Str)  (x : Int) : slices_Equal_string_string_la s_1 s_2 x = slices_Equal_string_string_la_F s_1 s_2 (slices_Equal_string_string_la s_1 s_2) x := fix_eq (slices_Equal_string_string_la_fin s_1 s_2) x
noncomputable def slices_Equal_string_string (s_1 : List Str) (s_2 : List Str) : Option Bool :=
  bif ((len s_1) != (len s_2)) then (some false) else (bindJ (ρ := Bool) (slices_Equal_string_string_la s_1 s_2 0) fun u6 : Unit => some true)
noncomputable def slices_Equal_impl_Duty_impl_Duty_la_F (s_1 : List Duty) (s_2 : List Duty)  (self : Int → Option (Bool ⊕ Unit)) (x3 : Int) : Option (Bool ⊕ Unit) :=
  bif (decide (x3 < (len s_1))) then ((getI s_1 x3).bind fun e4 => (getI s_2 x3).bind fun e5 => bif (!(e4.Clause == e5.Clause && (e4.Since == e5.Since && (e4.Due == e5.Due && (e4.Status == e5.Status && true))))) then (some (.inl false)) else (self (w64 (x3 + 1)))) else (some (.inr ()))
noncomputable def slices_Equal_impl_Duty_impl_Duty_la (s_1 : List Duty) (s_2 : List Duty)  : Int → Option (Bool ⊕ Unit) := fixO (slices_Equal_impl_Duty_impl_Duty_la_F s_1 s_2)
theorem slices_Equal_impl_Duty_impl_Duty_la_fin (s_1 : List Duty) (s_2 : List Duty)  : ∀ a, Fin1 fun f => slices_Equal_impl_Duty_impl_Duty_la_F s_1 s_2 f a := by
  intro a
  unfold slices_Equal_impl_Duty_impl_Duty_la_F
  repeat first | exact f_const | exact f_self | refine f_cond ?_ ?_ | refine f_bindJ ?_ (fun _ => ?_) | refine f_bindL ?_ (fun _ => ?_) | refine f_bind ?_ (fun _ => ?_) | refine f_letJ (fun _ => ?_)
theorem slices_Equal_impl_Duty_impl_Duty_la_eq (s_1 : List Duty) (s_2 : List Duty)  (x : Int) : slices_Equal_impl_Duty_impl_Duty_la s_1 s_2 x = slices_Equal_impl_Duty_impl_Duty_la_F s_1 s_2 (slices_Equal_impl_Duty_impl_Duty_la s_1 s_2) x := fix_eq (slices_Equal_impl_Duty_impl_Duty_la_fin s_1 s_2) x
noncomputable def slices_Equal_impl_Duty_impl_Duty (s_1 : List Duty) (s_2 : List Duty) : Option Bool :=
  bif ((len s_1) != (len s_2)) then (some false) else (bindJ (ρ := Bool) (slices_Equal_impl_Duty_impl_Duty_la s_1 s_2 0) fun u6 : Unit => some true)
noncomputable def slices_Equal_int_int_la_F (s_1 : List Int) (s_2 : List Int)  (self : Int → Option (Bool ⊕ Unit)) (x3 : Int) : Option (Bool ⊕ Unit) :=
  bif (decide (x3 < (len s_1))) then ((getI s_1 x3).bind fun e4 => (getI s_2 x3).bind fun e5 => bif (e4 != e5) then (some (.inl false)) else (self (w64 (x3 + 1)))) else (some (.inr ()))
noncomputable def slices_Equal_int_int_la (s_1 : List Int) (s_2 : List Int)  : Int → Option (Bool ⊕ Unit) := fixO (slices_Equal_int_int_la_F s_1 s_2)
theorem slices_Equal_int_int_la_fin (s_1 : List Int) (s_2 : List Int)  : ∀ a, Fin1 fun f => slices_Equal_int_int_la_F s_1 s_2 f a := by
  intro a
  unfold slices_Equal_int_int_la_F
  repeat first | exact f_const | exact f_self | refine f_cond ?_ ?_ | refine f_bindJ ?_ (fun _ => ?_) | refine f_bindL ?_ (fun _ => ?_) | refine f_bind ?_ (fun _ => ?_) | refine f_letJ (fun _ => ?_)
theorem slices_Equal_int_int_la_eq (s_1 : List Int) (s_2 : List Int)  (x : Int) : slices_Equal_int_int_la s_1 s_2 x = slices_Equal_int_int_la_F s_1 s_2 (slices_Equal_int_int_la s_1 s_2) x := fix_eq (slices_Equal_int_int_la_fin s_1 s_2) x
noncomputable def slices_Equal_int_int (s_1 : List Int) (s_2 : List Int) : Option Bool :=
  bif ((len s_1) != (len s_2)) then (some false) else (bindJ (ρ := Bool) (slices_Equal_int_int_la s_1 s_2 0) fun u6 : Unit => some true)
noncomputable def impl_EqualStates (a_1 : State) (b_2 : State) : Option Bool :=
  bindJ (ρ := Bool) (bif (a_1.Day == b_2.Day) then (bindL (ρ := Bool) (bif (a_1.Over == b_2.Over) then ((slices_Equal_string_string a_1.Facts b_2.Facts).bind fun r5 => bindL (ρ := Bool) (bif r5 then ((slices_Equal_impl_Duty_impl_Duty a_1.Duties b_2.Duties).bind fun r7 => bindL (ρ := Bool) (bif r7 then ((slices_Equal_int_int a_1.Balances b_2.Balances).bind fun r9 => some (.inr r9)) else (some (.inr false))) fun u8 : Bool => some (.inr u8)) else (some (.inr false))) fun u6 : Bool => some (.inr u6)) else (some (.inr false))) fun u4 : Bool => some (.inr u4)) else (some (.inr false))) fun u3 : Bool => some u3
noncomputable def laws_eqStringS_la_F (a_1 : List Str) (b_2 : List Str)  (self : Int → Option (Bool ⊕ Unit)) (x3 : Int) : Option (Bool ⊕ Unit) :=
  bif (decide (x3 < (len a_1))) then ((getI a_1 x3).bind fun e4 => (getI b_2 x3).bind fun e5 => bif (!(e4 == e5)) then (some (.inl false)) else (self (w64 (x3 + 1)))) else (some (.inr ()))
noncomputable def laws_eqStringS_la (a_1 : List Str) (b_2 : List Str)  : Int → Option (Bool ⊕ Unit) := fixO (laws_eqStringS_la_F a_1 b_2)
theorem laws_eqStringS_la_fin (a_1 : List Str) (b_2 : List Str)  : ∀ a, Fin1 fun f => laws_eqStringS_la_F a_1 b_2 f a := by
  intro a
  unfold laws_eqStringS_la_F
  repeat first | exact f_const | exact f_self | refine f_cond ?_ ?_ | refine f_bindJ ?_ (fun _ => ?_) | refine f_bindL ?_ (fun _ => ?_) | refine f_bind ?_ (fun _ => ?_) | refine f_letJ (fun _ => ?_)
theorem laws_eqStringS_la_eq (a_1 : List Str) (b_2 : List Str)  (x : Int) : laws_eqStringS_la a_1 b_2 x = laws_eqStringS_la_F a_1 b_2 (laws_eqStringS_la a_1 b_2) x := fix_eq (laws_eqStringS_la_fin a_1 b_2) x
noncomputable def laws_eqStringS (a_1 : List Str) (b_2 : List Str) : Option Bool :=
  bif ((len a_1) != (len b_2)) then (some false) else (bindJ (ρ := Bool) (laws_eqStringS_la a_1 b_2 0) fun u6 : Unit => some true)
noncomputable def laws_eqDuty (a_1 : Duty) (b_2 : Duty) : Option Bool :=
  bif (a_1.Clause != b_2.Clause) then (some false) else (bif (a_1.Since != b_2.Since) then (some false) else (bif (a_1.Due != b_2.Due) then (some false) else (bif (a_1.Status != b_2.Status) then (some false) else (some true))))
noncomputable def laws_eqDutyS_la_F (a_1 : List Duty) (b_2 : List Duty)  (self : Int → Option (Bool ⊕ Unit)) (x3 : Int) : Option (Bool ⊕ Unit) :=
  bif (decide (x3 < (len a_1))) then ((getI a_1 x3).bind fun e4 => (getI b_2 x3).bind fun e5 => (laws_eqDuty e4 e5).bind fun r6 => bif (!r6) then (some (.inl false)) else (self (w64 (x3 + 1)))) else (some (.inr ()))
noncomputable def laws_eqDutyS_la (a_1 : List Duty) (b_2 : List Duty)  : Int → Option (Bool ⊕ Unit) := fixO (laws_eqDutyS_la_F a_1 b_2)
theorem laws_eqDutyS_la_fin (a_1 : List Duty) (b_2 : List Duty)  : ∀ a, Fin1 fun f => laws_eqDutyS_la_F a_1 b_2 f a := by
  intro a
  unfold laws_eqDutyS_la_F
  repeat first | exact f_const | exact f_self | refine f_cond ?_ ?_ | refine f_bindJ ?_ (fun _ => ?_) | refine f_bindL ?_ (fun _ => ?_) | refine f_bind ?_ (fun _ => ?_) | refine f_letJ (fun _ => ?_)
theorem laws_eqDutyS_la_eq (a_1 : List Duty) (b_2 : List Duty)  (x : Int) : laws_eqDutyS_la a_1 b_2 x = laws_eqDutyS_la_F a_1 b_2 (laws_eqDutyS_la a_1 b_2) x := fix_eq (laws_eqDutyS_la_fin a_1 b_2) x
noncomputable def laws_eqDutyS (a_1 : List Duty) (b_2 : List Duty) : Option Bool :=
  bif ((len a_1) != (len b_2)) then (some false) else (bindJ (ρ := Bool) (laws_eqDutyS_la a_1 b_2 0) fun u7 : Unit => some true)
noncomputable def laws_eqIntS_la_F (a_1 : List Int) (b_2 : List Int)  (self : Int → Option (Bool ⊕ Unit)) (x3 : Int) : Option (Bool ⊕ Unit) :=
  bif (decide (x3 < (len a_1))) then ((getI a_1 x3).bind fun e4 => (getI b_2 x3).bind fun e5 => bif (e4 != e5) then (some (.inl false)) else (self (w64 (x3 + 1)))) else (some (.inr ()))
noncomputable def laws_eqIntS_la (a_1 : List Int) (b_2 : List Int)  : Int → Option (Bool ⊕ Unit) := fixO (laws_eqIntS_la_F a_1 b_2)
theorem laws_eqIntS_la_fin (a_1 : List Int) (b_2 : List Int)  : ∀ a, Fin1 fun f => laws_eqIntS_la_F a_1 b_2 f a := by
  intro a
  unfold laws_eqIntS_la_F
  repeat first | exact f_const | exact f_self | refine f_cond ?_ ?_ | refine f_bindJ ?_ (fun _ => ?_) | refine f_bindL ?_ (fun _ => ?_) | refine f_bind ?_ (fun _ => ?_) | refine f_letJ (fun _ => ?_)
theorem laws_eqIntS_la_eq (a_1 : List Int) (b_2 : List Int)  (x : Int) : laws_eqIntS_la a_1 b_2 x = laws_eqIntS_la_F a_1 b_2 (laws_eqIntS_la a_1 b_2) x := fix_eq (laws_eqIntS_la_fin a_1 b_2) x
noncomputable def laws_eqIntS (a_1 : List Int) (b_2 : List Int) : Option Bool :=
  bif ((len a_1) != (len b_2)) then (some false) else (bindJ (ρ := Bool) (laws_eqIntS_la a_1 b_2 0) fun u6 : Unit => some true)
noncomputable def laws_eqState (a_1 : State) (b_2 : State) : Option Bool :=
  bif (a_1.Day != b_2.Day) then (some false) else ((laws_eqStringS a_1.Facts b_2.Facts).bind fun r3 => bif (!r3) then (some false) else ((laws_eqDutyS a_1.Duties b_2.Duties).bind fun r4 => bif (!r4) then (some false) else ((laws_eqIntS a_1.Balances b_2.Balances).bind fun r5 => bif (!r5) then (some false) else (bif (!(a_1.Over == b_2.Over)) then (some false) else (some true)))))
noncomputable def laws_FnExactEqualStates (aA_1 : State) (aB_2 : State) : Option Bool :=
  (laws_szState aA_1 1048576).bind fun r3 => bif (decide (r3 < 0)) then (some true) else ((laws_szState aB_2 r3).bind fun r4 => bif (decide (r4 < 0)) then (some true) else ((laws_toState aA_1).bind fun r5 => (laws_toState aB_2).bind fun r6 => (spec_EqualStates r5 r6).bind fun r7 => (laws_toState aA_1).bind fun r8 => (laws_toState aB_2).bind fun r9 => (impl_EqualStates r8 r9).bind fun r10 => bif (!(r10 == r7)) then (some false) else ((laws_toState aA_1).bind fun r11 => (laws_eqState r8 r11).bind fun r12 => bif (!r12) then (some false) else ((laws_toState aB_2).bind fun r13 => (laws_eqState r9 r13).bind fun r14 => bif (!r14) then (some false) else (some true)))))
end Go.Ln
