/-
  What each function of the law computes, as a plain function.
-/
import Derived.Test.YtgcnameabpnpaaaLnE
set_option linter.unusedVariables false
set_option linter.unusedSimpArgs false
namespace Go.Ln
open Go
structure Event where
  Day : Int
  Party : Int
  Action : Str
  Amount : Int
def enc_Event (x : Event) : V := .agg [I (x.Day), I (x.Party), str (x.Action), I (x.Amount)]
theorem enc_Event_cells (x : Event) : (cells (enc_Event x)).length = 4 ∧ (cells (enc_Event x)).all cellV = true := ⟨rfl, rfl⟩
theorem enc_Event_imm (x : Event) : imm (enc_Event x) = enc_Event x := rfl
theorem enc_Event_himm (x : Event) : hasImm (enc_Event x) = false := rfl
theorem enc_Event_flat (x : Event) : flatE (enc_Event x) = true := rfl
theorem enc_Event_inj (a b : Event) (h : enc_Event a = enc_Event b) : a = b := by
  obtain ⟨p0, p1, p2, p3⟩ := a
  obtain ⟨q0, q1, q2, q3⟩ := b
  replace h := V.agg.inj h
  obtain ⟨h0, h⟩ := List.cons.inj h
  obtain rfl := I_inj p0 q0 h0
  obtain ⟨h1, h⟩ := List.cons.inj h
  obtain rfl := I_inj p1 q1 h1
  obtain ⟨h2, h⟩ := List.cons.inj h
  obtain rfl := str_inj p2 q2 h2
  obtain ⟨h3, h⟩ := List.cons.inj h
  obtain rfl := I_inj p3 q3 h3
  rfl
def ok_Event (x : Event) : Prop := I64 x.Day ∧ I64 x.Party ∧ okS x.Action ∧ I64 x.Amount
noncomputable def laws_szEvent (a_1 : Event) (left_2 : Int) : Option Int :=
  bif (decide ((w64 (left_2 - (len a_1.Action))) < 0)) then (some (-1)) else (some (w64 (left_2 - (len a_1.Action))))
noncomputable def laws_toEvent (a_1 : Event) : Option Event :=
  some a_1
noncomputable def spec_l8Compare (a_1 : Event) (b_2 : Event) : Option Int :=
  bindJ (ρ := Int) (bif (a_1.Day != b_2.Day) then (some (.inr (a_1.Day, b_2.Day))) else (bindL (ρ := Int) (bif (a_1.Party != b_2.Party) then (some (.inr (a_1.Party, b_2.Party))) else (bif (Op.bytesLess a_1.Action b_2.Action) then (some (.inl (-1))) else (bif (!(Op.bytesLess a_1.Action b_2.Action || a_1.Action == b_2.Action)) then (some (.inl 1)) else (some (.inr (a_1.Amount, b_2.Amount)))))) fun u4 : Int × Int => some (.inr (u4.1, u4.2)))) fun u3 : Int × Int => bif (decide (u3.1 < u3.2)) then (some (-1)) else (bif (decide (u3.1 > u3.2)) then (some 1) else (some 0))
noncomputable def spec_CompareEvents (a_1 : Event) (b_2 : Event) : Option Int :=
  (spec_l8Compare a_1 b_2).bind fun r3 => some r3
noncomputable def cmp_isNaN_int (x_1 : Int) : Option Bool :=
  some (x_1 != x_1)
noncomputable def cmp_Compare_int (x_1 : Int) (y_2 : Int) : Option Int :=
  (cmp_isNaN_int x_1).bind fun r3 => (cmp_isNaN_int y_2).bind fun r4 => bif r3 then (bif r4 then (some 0) else (some (-1))) else (bif r4 then (some 1) else (bif (decide (x_1 < y_2)) then (some (-1)) else (bif (decide (x_1 > y_2)) then (some 1) else (some 0))))
noncomputable def cmp_isNaN_string (x_1 : Str) : Option Bool :=
  some (!(x_1 == x_1))
noncomputable def cmp_Compare_string (x_1 : Str) (y_2 : Str) : Option Int :=
  (cmp_isNaN_string x_1).bind fun r3 => (cmp_isNaN_string y_2).bind fun r4 => bif r3 then (bif r4 then (some 0) else (some (-1))) else (bif r4 then (some 1) else (bif (Op.bytesLess x_1 y_2) then (some (-1)) else (bif (!(Op.bytesLess x_1 y_2 || x_1 == y_2)) then (some 1) else (some 0))))
noncomputable def cmp_Or_int_la_F (vals_1 : List Int)  (self : Int → Option (Int ⊕ Unit)) (x2 : Int) : Option (Int ⊕ Unit) :=
  bif (decide (x2 < (len vals_1))) then ((getI vals_1 x2).bind fun e3 => bif (e3 != 0) then (some (.inl e3)) else (self (w64 (x2 + 1)))) else (some (.inr ()))
noncomputable def cmp_Or_int_la (vals_1 : List Int)  : Int → Option (Int ⊕ Unit) := fixO (cmp_Or_int_la_F vals_1)
theorem cmp_Or_int_la_fin (vals_1 : List Int)  : ∀ a, Fin1 fun f => cmp_Or_int_la_F vals_1 f a := by
  intro a
  unfold cmp_Or_int_la_F
  repeat first | exact f_const | exact f_self | refine f_cond ?_ ?_ | refine f_bindJ ?_ (fun _ => ?_) | refine f_bindL ?_ (fun _ => ?_) | refine f_bind ?_ (fun _ => ?_) | refine f_letJ (fun _ => ?_)
theorem cmp_Or_int_la_eq (vals_1 : List Int)  (x : Int) : cmp_Or_int_la vals_1 x = cmp_Or_int_la_F vals_1 (cmp_Or_int_la vals_1) x := fix_eq (cmp_Or_int_la_fin vals_1) x
noncomputable def cmp_Or_int (vals_1 : List Int) : Option Int :=
  bindJ (ρ := Int) (cmp_Or_int_la vals_1 0) fun u4 : Unit => some 0
noncomputable def impl_CompareEvents (a_1 : Event) (b_2 : Event) : Option Int :=
  (cmp_Compare_int a_1.Day b_2.Day).bind fun r3 => (cmp_Compare_int a_1.Party b_2.Party).bind fun r4 => (cmp_Compare_string a_1.Action b_2.Action).bind fun r5 => (cmp_Compare_int a_1.Amount b_2.Amount).bind fun r6 => (cmp_Or_int [r3, r4, r5, r6]).bind fun r7 => some r7
noncomputable def laws_FnExactCompareEvents (aA_1 : Event) (aB_2 : Event) : Option Bool :=
  (laws_szEvent aA_1 1048576).bind fun r3 => bif (decide (r3 < 0)) then (some true) else ((laws_szEvent aB_2 r3).bind fun r4 => bif (decide (r4 < 0)) then (some true) else ((laws_toEvent aA_1).bind fun r5 => (laws_toEvent aB_2).bind fun r6 => (spec_CompareEvents r5 r6).bind fun r7 => (laws_toEvent aA_1).bind fun r8 => (laws_toEvent aB_2).bind fun r9 => (impl_CompareEvents r8 r9).bind fun r10 => bif (r10 != r7) then (some false) else (some true)))
end Go.Ln
