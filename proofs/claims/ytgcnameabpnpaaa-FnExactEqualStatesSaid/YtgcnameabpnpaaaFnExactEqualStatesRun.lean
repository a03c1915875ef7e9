/-
  Each function of the program computes its plain function.
-/
import Derived.Test.YtgcnameabpnpaaaFnExactEqualStatesFun
import Derived.Test.YtgcnameabpnpaaaChecked
set_option linter.unusedVariables false
set_option linter.unusedSimpArgs false
set_option maxRecDepth 100000
namespace Go.Ln
open Go Go.Proofs
noncomputable def laws_szStringS_c : Code := bodyOf Try.f18
noncomputable def laws_szStringS_E : Env := mkE Try.prog []
def laws_szStringS_Q (a_1 : List Str) (left_2 : Int) (r : Int) (st : St) : Prop := finish laws_szStringS_E Try.f18 [false, false] (enter Try.f18 [.isl false ((a_1).map str), I (left_2)]).1 st = some (I (r), [])
theorem laws_szStringS_la_run (a_1 : List Str) (left_2 : Int)  {Q : St → Prop} {K : List It} (hK : noD K = true) {x3 : Int × Int} {y : Int ⊕ Int} (h : laws_szStringS_la a_1 left_2 x3 = some y) : (∀ r', y = .inl r' → ∀ st, laws_szStringS_Q a_1 left_2 r' st → Q st) → (∀ u : Int, y = .inr u → Run laws_szStringS_E 0 Q K ⟨mkTm .dead 28 [(1, I (u))], mkS (rtL [] 1), 1⟩) → Run laws_szStringS_E 0 Q (.code (cL (cL (cR (cL (cR (cR (cR laws_szStringS_c))))))) :: .lp (cL (cL (cR (cL (cR (cR (cR laws_szStringS_c))))))) :: .blk 0 :: K) ⟨mkTm .dead 28 [(0, .isl false ((a_1).map str)), (1, I (x3.1)), (5, I (x3.2))], mkS (rtL [] 1), 1⟩ := by
  refine fix_ind (P := fun (x3 : Int × Int) (y : Int ⊕ Int) => (∀ r', y = .inl r' → ∀ st, laws_szStringS_Q a_1 left_2 r' st → Q st) → (∀ u : Int, y = .inr u → Run laws_szStringS_E 0 Q K ⟨mkTm .dead 28 [(1, I (u))], mkS (rtL [] 1), 1⟩) → Run laws_szStringS_E 0 Q (.code (cL (cL (cR (cL (cR (cR (cR laws_szStringS_c))))))) :: .lp (cL (cL (cR (cL (cR (cR (cR laws_szStringS_c))))))) :: .blk 0 :: K) ⟨mkTm .dead 28 [(0, .isl false ((a_1).map str)), (1, I (x3.1)), (5, I (x3.2))], mkS (rtL [] 1), 1⟩) (laws_szStringS_la_fin a_1 left_2) ?_ h
  clear h y x3
  intro self ih x3 y h hr hn
  unfold laws_szStringS_la_F at h
  refine s_seq rfl ?_
  refine s_seq rfl ?_
  refine s_reg rfl ?_
  refine o 17 (I (x3.2)) rfl rfl (e_move rfl) ?_
  refine o 33 (.isl false ((a_1).map str)) rfl rfl (e_move rfl) ?_
  refine o 49 (I ((len a_1))) rfl rfl (e_len rfl rfl rfl (l_isl rfl)) ?_
  refine o 65 (B ((decide (x3.2 < (len a_1))))) rfl rfl (e_bin rfl rfl rfl) ?_
  refine s_ops ?_
  refine s_cond rfl rfl (fun hb => ?_) (fun hb => ?_)
  · replace h := cT hb h
    refine s_skip rfl ?_
    refine s_seq rfl ?_
    refine s_block rfl ?_
    refine s_seq rfl ?_
    refine s_reg rfl ?_
    refine o 81 (I (x3.1)) rfl rfl (e_move rfl) ?_
    refine o 97 (.isl false ((a_1).map str)) rfl rfl (e_move rfl) ?_
    refine o 113 (I (x3.2)) rfl rfl (e_move rfl) ?_
    obtain ⟨e4, he4, h⟩ := bS h
    refine o 129 (.iptr (str (e4)) 0) rfl rfl (e_indexAddr rfl rfl rfl (ix_islE rfl rfl rfl rfl he4)) ?_
    refine o 145 (str (e4)) rfl rfl (e_ld rfl rfl) ?_
    refine o 161 (I ((len e4))) rfl rfl (e_len rfl rfl rfl (l_str rfl)) ?_
    refine o 177 (I ((w64 (x3.1 - (len e4))))) rfl rfl (e_bin rfl rfl rfl) ?_
    refine o 193 (I ((w64 (x3.1 - (len e4))))) rfl rfl (e_assign rfl) ?_
    refine s_ops ?_
    refine s_seq rfl ?_
    refine s_reg rfl ?_
    refine o 209 (I ((w64 (x3.1 - (len e4))))) rfl rfl (e_move rfl) ?_
    refine o 225 (B ((decide ((w64 (x3.1 - (len e4))) < 0)))) rfl rfl (e_bin rfl rfl rfl) ?_
    refine s_ops ?_
    refine s_cond rfl rfl (fun hb => ?_) (fun hb => ?_)
    · replace h := cT hb h
      refine s_seq rfl ?_
      refine s_reg rfl ?_
      refine o 241 (I ((-1))) rfl rfl (e_assign rfl) ?_
      refine s_ops ?_
      exact s_ret rfl (hr _ (Option.some.inj h).symm _ (fin (vs := [I ((-1))]) rfl (absE (absorb_plain rfl) (absEN)) rfl rfl))
    · replace h := cF hb h
      refine s_skip rfl ?_
      refine s_blk ?_
      refine s_reg rfl ?_
      refine o 241 (I (x3.2)) rfl rfl (e_move rfl) ?_
      refine o 257 (I ((w64 (x3.2 + 1)))) rfl rfl (e_bin rfl rfl rfl) ?_
      refine o 273 (I ((w64 (x3.2 + 1)))) rfl rfl (e_assign rfl) ?_
      refine s_ops ?_
      refine s_lp ?_
      refine run_forget [0, 1, 5] [] [] rfl rfl rfl rfl ?_
      exact ih _ _ h hr hn
  · replace h := cF hb h
    refine s_exit rfl rfl ?_
    refine run_forget [1] [] [] rfl rfl rfl hK ?_
    exact hn _ (Option.some.inj h).symm
theorem laws_szStringS_run (a_1 : List Str) (left_2 : Int) (r : Int) (h : laws_szStringS a_1 left_2 = some r) : Run laws_szStringS_E 0 (laws_szStringS_Q a_1 left_2 r) [.code laws_szStringS_c] (enter Try.f18 [.isl false ((a_1).map str), I (left_2)]).2 := by
  refine run_at (enter_eq (ys := [.isl false ((a_1).map str), I (left_2)]) (R := []) (n := 28) (l := [(0, .isl false ((a_1).map str)), (1, I (left_2))]) (nx := 1) rfl rfl rfl) ?_
  unfold laws_szStringS at h
  refine s_seq rfl ?_
  refine s_reg rfl ?_
  refine o 17 (I (0)) rfl rfl (e_assign rfl) ?_
  refine s_ops ?_
  refine s_seq rfl ?_
  refine s_reg rfl ?_
  refine o 33 (I (left_2)) rfl rfl (e_move rfl) ?_
  refine o 49 (.isl false ((a_1).map str)) rfl rfl (e_move rfl) ?_
  refine o 65 (I ((len a_1))) rfl rfl (e_len rfl rfl rfl (l_isl rfl)) ?_
  refine o 81 (I ((w64 (left_2 - (len a_1))))) rfl rfl (e_bin rfl rfl rfl) ?_
  refine o 97 (I ((w64 (left_2 - (len a_1))))) rfl rfl (e_assign rfl) ?_
  refine s_ops ?_
  refine s_seq rfl ?_
  refine s_seq rfl ?_
  refine s_reg rfl ?_
  refine o 113 (I ((w64 (left_2 - (len a_1))))) rfl rfl (e_move rfl) ?_
  refine o 129 (B ((decide ((w64 (left_2 - (len a_1))) < 0)))) rfl rfl (e_bin rfl rfl rfl) ?_
  refine s_ops ?_
  refine s_cond rfl rfl (fun hb => ?_) (fun hb => ?_)
  · replace h := cT hb h
    refine s_seq rfl ?_
    refine s_reg rfl ?_
    refine o 145 (I ((-1))) rfl rfl (e_assign rfl) ?_
    refine s_ops ?_
    obtain rfl := Option.some.inj h
    exact s_ret rfl (fin (vs := [I ((-1))]) rfl (absE (absorb_plain rfl) (absEN)) rfl rfl)
  · replace h := cF hb h
    refine s_skip rfl ?_
    refine s_seq rfl ?_
    refine s_seq rfl ?_
    refine s_reg rfl ?_
    refine o 145 (I (0)) rfl rfl (e_assign rfl) ?_
    refine s_ops ?_
    refine s_block rfl ?_
    obtain ⟨y5, hy5, hy51, hy52⟩ := bJ h
    refine s_loop rfl ?_
    refine run_forget [0, 1, 5] [] [] rfl rfl rfl rfl ?_
    refine laws_szStringS_la_run a_1 left_2 rfl hy5 (fun r' e st hq => by rw [hy51 r' e] at hq; exact hq) (fun u5 hu => ?_)
    replace h := hy52 u5 hu
    refine s_seq rfl ?_
    refine s_reg rfl ?_
    refine o 17 (I (u5)) rfl rfl (e_move rfl) ?_
    refine o 33 (I (u5)) rfl rfl (e_assign rfl) ?_
    refine s_ops ?_
    obtain rfl := Option.some.inj h
    exact s_ret rfl (fin (vs := [I (u5)]) rfl (absE (absorb_plain rfl) (absEN)) rfl rfl)
noncomputable def laws_szStringS_ent : Ent := ⟨[false, false], entF2 (decS str) (decBy I) fun a_1 left_2 => (laws_szStringS a_1 left_2).map fun r => (I (r), [])⟩
theorem laws_szStringS_F {a_1 : List Str} {left_2 : Int} {r : Int} (h : laws_szStringS a_1 left_2 = some r) : laws_szStringS_ent.F [.isl false ((a_1).map str), I (left_2)] = some (I (r), []) := by
  have e : laws_szStringS_ent.F [.isl false ((a_1).map str), I (left_2)] = (laws_szStringS a_1 left_2).map fun r => (I (r), []) := by
    simp only [laws_szStringS_ent, entF2, decS, dec_ok (isl_inj str_inj), dec_ok I_inj, Option.bind_some]
  refine Eq.trans ?_ ((congrArg (Option.map fun r => ((I (r) : V), ([] : List V))) h))
  exact e
theorem laws_szStringS_good {G : Ground} : Good Try.prog G 18 laws_szStringS_ent := by
  refine good_of_run (E := laws_szStringS_E) (fnOf_good (by simp)) agree_mk (Checked.mixed Try.checked) Try.func18 (c := laws_szStringS_c) (n := 2) ⟨rfl, rfl, by decide⟩ ?_
  intro vs r os h
  obtain ⟨v0, v1, a_1, left_2, rfl, q0, q1, h9⟩ := entI2 h
  obtain rfl := dec_of q0
  obtain rfl := dec_of q1
  obtain ⟨r1, hr1, he⟩ := Option.map_eq_some_iff.1 h9
  cases he
  exact ⟨rfl, laws_szStringS_run a_1 left_2 r1 hr1⟩
noncomputable def laws_szDutyS_c : Code := bodyOf Try.f19
noncomputable def laws_szDutyS_E : Env := mkE Try.prog []
def laws_szDutyS_Q (a_1 : List Duty) (left_2 : Int) (r : Int) (st : St) : Prop := finish laws_szDutyS_E Try.f19 [false, false] (enter Try.f19 [.isl false ((a_1).map enc_Duty), I (left_2)]).1 st = some (I (r), [])
theorem laws_szDutyS_run (a_1 : List Duty) (left_2 : Int) (r : Int) (h : laws_szDutyS a_1 left_2 = some r) : Run laws_szDutyS_E 0 (laws_szDutyS_Q a_1 left_2 r) [.code laws_szDutyS_c] (enter Try.f19 [.isl false ((a_1).map enc_Duty), I (left_2)]).2 := by
  refine run_at (enter_eq (ys := [.isl false ((a_1).map enc_Duty), I (left_2)]) (R := []) (n := 12) (l := [(0, .isl false ((a_1).map enc_Duty)), (1, I (left_2))]) (nx := 1) rfl rfl rfl) ?_
  unfold laws_szDutyS at h
  refine s_seq rfl ?_
  refine s_reg rfl ?_
  refine o 17 (I (0)) rfl rfl (e_assign rfl) ?_
  refine s_ops ?_
  refine s_seq rfl ?_
  refine s_reg rfl ?_
  refine o 33 (I (left_2)) rfl rfl (e_move rfl) ?_
  refine o 49 (.isl false ((a_1).map enc_Duty)) rfl rfl (e_move rfl) ?_
  refine o 65 (I ((len a_1))) rfl rfl (e_len rfl rfl rfl (l_isl rfl)) ?_
  refine o 81 (I ((w64 (left_2 - (len a_1))))) rfl rfl (e_bin rfl rfl rfl) ?_
  refine o 97 (I ((w64 (left_2 - (len a_1))))) rfl rfl (e_assign rfl) ?_
  refine s_ops ?_
  refine s_seq rfl ?_
  refine s_seq rfl ?_
  refine s_reg rfl ?_
  refine o 113 (I ((w64 (left_2 - (len a_1))))) rfl rfl (e_move rfl) ?_
  refine o 129 (B ((decide ((w64 (left_2 - (len a_1))) < 0)))) rfl rfl (e_bin rfl rfl rfl) ?_
  refine s_ops ?_
  refine s_cond rfl rfl (fun hb => ?_) (fun hb => ?_)
  · replace h := cT hb h
    refine s_seq rfl ?_
    refine s_reg rfl ?_
    refine o 145 (I ((-1))) rfl rfl (e_assign rfl) ?_
    refine s_ops ?_
    obtain rfl := Option.some.inj h
    exact s_ret rfl (fin (vs := [I ((-1))]) rfl (absE (absorb_plain rfl) (absEN)) rfl rfl)
  · replace h := cF hb h
    refine s_skip rfl ?_
    refine s_seq rfl ?_
    refine s_reg rfl ?_
    refine o 145 (I ((w64 (left_2 - (len a_1))))) rfl rfl (e_move rfl) ?_
    refine o 161 (I ((w64 (left_2 - (len a_1))))) rfl rfl (e_assign rfl) ?_
    refine s_ops ?_
    obtain rfl := Option.some.inj h
    exact s_ret rfl (fin (vs := [I ((w64 (left_2 - (len a_1))))]) rfl (absE (absorb_plain rfl) (absEN)) rfl rfl)
noncomputable def laws_szDutyS_ent : Ent := ⟨[false, false], entF2 (decS enc_Duty) (decBy I) fun a_1 left_2 => (laws_szDutyS a_1 left_2).map fun r => (I (r), [])⟩
theorem laws_szDutyS_F {a_1 : List Duty} {left_2 : Int} {r : Int} (h : laws_szDutyS a_1 left_2 = some r) : laws_szDutyS_ent.F [.isl false ((a_1).map enc_Duty), I (left_2)] = some (I (r), []) := by
  have e : laws_szDutyS_ent.F [.isl false ((a_1).map enc_Duty), I (left_2)] = (laws_szDutyS a_1 left_2).map fun r => (I (r), []) := by
    simp only [laws_szDutyS_ent, entF2, decS, dec_ok (isl_inj enc_Duty_inj), dec_ok I_inj, Option.bind_some]
  refine Eq.trans ?_ ((congrArg (Option.map fun r => ((I (r) : V), ([] : List V))) h))
  exact e
theorem laws_szDutyS_good {G : Ground} : Good Try.prog G 19 laws_szDutyS_ent := by
  refine good_of_run (E := laws_szDutyS_E) (fnOf_good (by simp)) agree_mk (Checked.mixed Try.checked) Try.func19 (c := laws_szDutyS_c) (n := 2) ⟨rfl, rfl, by decide⟩ ?_
  intro vs r os h
  obtain ⟨v0, v1, a_1, left_2, rfl, q0, q1, h9⟩ := entI2 h
  obtain rfl := dec_of q0
  obtain rfl := dec_of q1
  obtain ⟨r1, hr1, he⟩ := Option.map_eq_some_iff.1 h9
  cases he
  exact ⟨rfl, laws_szDutyS_run a_1 left_2 r1 hr1⟩
noncomputable def laws_szIntS_c : Code := bodyOf Try.f20
noncomputable def laws_szIntS_E : Env := mkE Try.prog []
def laws_szIntS_Q (a_1 : List Int) (left_2 : Int) (r : Int) (st : St) : Prop := finish laws_szIntS_E Try.f20 [false, false] (enter Try.f20 [.isl false ((a_1).map I), I (left_2)]).1 st = some (I (r), [])
theorem laws_szIntS_run (a_1 : List Int) (left_2 : Int) (r : Int) (h : laws_szIntS a_1 left_2 = some r) : Run laws_szIntS_E 0 (laws_szIntS_Q a_1 left_2 r) [.code laws_szIntS_c] (enter Try.f20 [.isl false ((a_1).map I), I (left_2)]).2 := by
  refine run_at (enter_eq (ys := [.isl false ((a_1).map I), I (left_2)]) (R := []) (n := 12) (l := [(0, .isl false ((a_1).map I)), (1, I (left_2))]) (nx := 1) rfl rfl rfl) ?_
  unfold laws_szIntS at h
  refine s_seq rfl ?_
  refine s_reg rfl ?_
  refine o 17 (I (0)) rfl rfl (e_assign rfl) ?_
  refine s_ops ?_
  refine s_seq rfl ?_
  refine s_reg rfl ?_
  refine o 33 (I (left_2)) rfl rfl (e_move rfl) ?_
  refine o 49 (.isl false ((a_1).map I)) rfl rfl (e_move rfl) ?_
  refine o 65 (I ((len a_1))) rfl rfl (e_len rfl rfl rfl (l_isl rfl)) ?_
  refine o 81 (I ((w64 (left_2 - (len a_1))))) rfl rfl (e_bin rfl rfl rfl) ?_
  refine o 97 (I ((w64 (left_2 - (len a_1))))) rfl rfl (e_assign rfl) ?_
  refine s_ops ?_
  refine s_seq rfl ?_
  refine s_seq rfl ?_
  refine s_reg rfl ?_
  refine o 113 (I ((w64 (left_2 - (len a_1))))) rfl rfl (e_move rfl) ?_
  refine o 129 (B ((decide ((w64 (left_2 - (len a_1))) < 0)))) rfl rfl (e_bin rfl rfl rfl) ?_
  refine s_ops ?_
  refine s_cond rfl rfl (fun hb => ?_) (fun hb => ?_)
  · replace h := cT hb h
    refine s_seq rfl ?_
    refine s_reg rfl ?_
    refine o 145 (I ((-1))) rfl rfl (e_assign rfl) ?_
    refine s_ops ?_
    obtain rfl := Option.some.inj h
    exact s_ret rfl (fin (vs := [I ((-1))]) rfl (absE (absorb_plain rfl) (absEN)) rfl rfl)
  · replace h := cF hb h
    refine s_skip rfl ?_
    refine s_seq rfl ?_
    refine s_reg rfl ?_
    refine o 145 (I ((w64 (left_2 - (len a_1))))) rfl rfl (e_move rfl) ?_
    refine o 161 (I ((w64 (left_2 - (len a_1))))) rfl rfl (e_assign rfl) ?_
    refine s_ops ?_
    obtain rfl := Option.some.inj h
    exact s_ret rfl (fin (vs := [I ((w64 (left_2 - (len a_1))))]) rfl (absE (absorb_plain rfl) (absEN)) rfl rfl)
noncomputable def laws_szIntS_ent : Ent := ⟨[false, false], entF2 (decS I) (decBy I) fun a_1 left_2 => (laws_szIntS a_1 left_2).map fun r => (I (r), [])⟩
theorem laws_szIntS_F {a_1 : List Int} {left_2 : Int} {r : Int} (h : laws_szIntS a_1 left_2 = some r) : laws_szIntS_ent.F [.isl false ((a_1).map I), I (left_2)] = some (I (r), []) := by
  have e : laws_szIntS_ent.F [.isl false ((a_1).map I), I (left_2)] = (laws_szIntS a_1 left_2).map fun r => (I (r), []) := by
    simp only [laws_szIntS_ent, entF2, decS, dec_ok (isl_inj I_inj), dec_ok I_inj, Option.bind_some]
  refine Eq.trans ?_ ((congrArg (Option.map fun r => ((I (r) : V), ([] : List V))) h))
  exact e
theorem laws_szIntS_good {G : Ground} : Good Try.prog G 20 laws_szIntS_ent := by
  refine good_of_run (E := laws_szIntS_E) (fnOf_good (by simp)) agree_mk (Checked.mixed Try.checked) Try.func20 (c := laws_szIntS_c) (n := 2) ⟨rfl, rfl, by decide⟩ ?_
  intro vs r os h
  obtain ⟨v0, v1, a_1, left_2, rfl, q0, q1, h9⟩ := entI2 h
  obtain rfl := dec_of q0
  obtain rfl := dec_of q1
  obtain ⟨r1, hr1, he⟩ := Option.map_eq_some_iff.1 h9
  cases he
  exact ⟨rfl, laws_szIntS_run a_1 left_2 r1 hr1⟩
noncomputable def laws_szState_c : Code := bodyOf Try.f9
noncomputable def laws_szState_E : Env := mkE Try.prog [(18, laws_szStringS_ent), (19, laws_szDutyS_ent), (20, laws_szIntS_ent)]
def laws_szState_Q (a_1 : State) (left_2 : Int) (r : Int) (st : St) : Prop := finish laws_szState_E Try.f9 [false, false] (enter Try.f9 [.agg [I (a_1.Day), .isl false ((a_1.Facts).map str), .isl false ((a_1.Duties).map enc_Duty), .isl false ((a_1.Balances).map I), B (a_1.Over)], I (left_2)]).1 st = some (I (r), [])
theorem laws_szState_run (a_1 : State) (left_2 : Int) (r : Int) (h : laws_szState a_1 left_2 = some r) : Run laws_szState_E 0 (laws_szState_Q a_1 left_2 r) [.code laws_szState_c] (enter Try.f9 [.agg [I (a_1.Day), .isl false ((a_1.Facts).map str), .isl false ((a_1.Duties).map enc_Duty), .isl false ((a_1.Balances).map I), B (a_1.Over)], I (left_2)]).2 := by
  refine run_at (enter_eq (ys := [.agg [I (a_1.Day), .isl false ((a_1.Facts).map str), .isl false ((a_1.Duties).map enc_Duty), .isl false ((a_1.Balances).map I), B (a_1.Over)], I (left_2)]) (R := []) (n := 24) (l := [(0, .agg [I (a_1.Day), .isl false ((a_1.Facts).map str), .isl false ((a_1.Duties).map enc_Duty), .isl false ((a_1.Balances).map I), B (a_1.Over)]), (1, I (left_2))]) (nx := 1) rfl rfl rfl) ?_
  unfold laws_szState at h
  refine s_seq rfl ?_
  refine s_reg rfl ?_
  refine o 17 (.hp 1 0 [] 5 0 0) rfl rfl (e_boxP rfl rfl rfl) ?_
  refine o 33 (I (0)) rfl rfl (e_assign rfl) ?_
  refine s_ops ?_
  refine s_seq rfl ?_
  refine s_reg rfl ?_
  refine o 49 (.hp 1 0 [] 5 0 1) rfl rfl (e_fieldAddr rfl rfl rfl) ?_
  refine o 65 (.isl false ((a_1.Facts).map str)) rfl rfl (e_ld rfl rfl) ?_
  refine o 81 (I (left_2)) rfl rfl (e_move rfl) ?_
  obtain ⟨r3, hr3, h⟩ := bS h
  refine o 97 (I (r3)) rfl rfl (e_callV rfl rfl (call_q rfl rfl rfl (avS (shP rfl) (avS (shP rfl) (avN))) (laws_szStringS_F hr3) rfl rfl rfl)) ?_
  refine o 113 (I (r3)) rfl rfl (e_assign rfl) ?_
  refine s_ops ?_
  refine s_seq rfl ?_
  refine s_seq rfl ?_
  refine s_reg rfl ?_
  refine o 129 (I (r3)) rfl rfl (e_move rfl) ?_
  refine o 145 (B ((decide (r3 < 0)))) rfl rfl (e_bin rfl rfl rfl) ?_
  refine s_ops ?_
  refine s_cond rfl rfl (fun hb => ?_) (fun hb => ?_)
  · replace h := cT hb h
    refine s_seq rfl ?_
    refine s_reg rfl ?_
    refine o 161 (I ((-1))) rfl rfl (e_assign rfl) ?_
    refine s_ops ?_
    obtain rfl := Option.some.inj h
    exact s_ret rfl (fin (vs := [I ((-1))]) rfl (absE (absorb_plain rfl) (absEN)) rfl rfl)
  · replace h := cF hb h
    refine s_skip rfl ?_
    refine s_seq rfl ?_
    refine s_reg rfl ?_
    refine o 161 (.hp 1 0 [] 5 0 2) rfl rfl (e_fieldAddr rfl rfl rfl) ?_
    refine o 177 (.isl false ((a_1.Duties).map enc_Duty)) rfl rfl (e_ld rfl rfl) ?_
    refine o 193 (I (r3)) rfl rfl (e_move rfl) ?_
    obtain ⟨r4, hr4, h⟩ := bS h
    refine o 209 (I (r4)) rfl rfl (e_callV rfl rfl (call_q rfl rfl rfl (avS (shP rfl) (avS (shP rfl) (avN))) (laws_szDutyS_F hr4) rfl rfl rfl)) ?_
    refine o 225 (I (r4)) rfl rfl (e_assign rfl) ?_
    refine s_ops ?_
    refine s_seq rfl ?_
    refine s_seq rfl ?_
    refine s_reg rfl ?_
    refine o 241 (I (r4)) rfl rfl (e_move rfl) ?_
    refine o 257 (B ((decide (r4 < 0)))) rfl rfl (e_bin rfl rfl rfl) ?_
    refine s_ops ?_
    refine s_cond rfl rfl (fun hb => ?_) (fun hb => ?_)
    · replace h := cT hb h
      refine s_seq rfl ?_
      refine s_reg rfl ?_
      refine o 273 (I ((-1))) rfl rfl (e_assign rfl) ?_
      refine s_ops ?_
      obtain rfl := Option.some.inj h
      exact s_ret rfl (fin (vs := [I ((-1))]) rfl (absE (absorb_plain rfl) (absEN)) rfl rfl)
    · replace h := cF hb h
      refine s_skip rfl ?_
      refine s_seq rfl ?_
      refine s_reg rfl ?_
      refine o 273 (.hp 1 0 [] 5 0 3) rfl rfl (e_fieldAddr rfl rfl rfl) ?_
      refine o 289 (.isl false ((a_1.Balances).map I)) rfl rfl (e_ld rfl rfl) ?_
      refine o 305 (I (r4)) rfl rfl (e_move rfl) ?_
      obtain ⟨r5, hr5, h⟩ := bS h
      refine o 321 (I (r5)) rfl rfl (e_callV rfl rfl (call_q rfl rfl rfl (avS (shP rfl) (avS (shP rfl) (avN))) (laws_szIntS_F hr5) rfl rfl rfl)) ?_
      refine o 337 (I (r5)) rfl rfl (e_assign rfl) ?_
      refine s_ops ?_
      refine s_seq rfl ?_
      refine s_seq rfl ?_
      refine s_reg rfl ?_
      refine o 353 (I (r5)) rfl rfl (e_move rfl) ?_
      refine o 369 (B ((decide (r5 < 0)))) rfl rfl (e_bin rfl rfl rfl) ?_
      refine s_ops ?_
      refine s_cond rfl rfl (fun hb => ?_) (fun hb => ?_)
      · replace h := cT hb h
        refine s_seq rfl ?_
        refine s_reg rfl ?_
        refine o 385 (I ((-1))) rfl rfl (e_assign rfl) ?_
        refine s_ops ?_
        obtain rfl := Option.some.inj h
        exact s_ret rfl (fin (vs := [I ((-1))]) rfl (absE (absorb_plain rfl) (absEN)) rfl rfl)
      · replace h := cF hb h
        refine s_skip rfl ?_
        refine s_seq rfl ?_
        refine s_reg rfl ?_
        refine o 385 (I (r5)) rfl rfl (e_move rfl) ?_
        refine o 401 (I (r5)) rfl rfl (e_assign rfl) ?_
        refine s_ops ?_
        obtain rfl := Option.some.inj h
        exact s_ret rfl (fin (vs := [I (r5)]) rfl (absE (absorb_plain rfl) (absEN)) rfl rfl)
noncomputable def laws_szState_ent : Ent := ⟨[false, false], entF2 (decBy encI_State) (decBy I) fun a_1 left_2 => (laws_szState a_1 left_2).map fun r => (I (r), [])⟩
theorem laws_szState_F {a_1 : State} {left_2 : Int} {r : Int} (h : laws_szState a_1 left_2 = some r) : laws_szState_ent.F [.agg [I (a_1.Day), .isl false ((a_1.Facts).map str), .isl false ((a_1.Duties).map enc_Duty), .isl false ((a_1.Balances).map I), B (a_1.Over)], I (left_2)] = some (I (r), []) := by
  have e : laws_szState_ent.F [encI_State a_1, I (left_2)] = (laws_szState a_1 left_2).map fun r => (I (r), []) := by
    simp only [laws_szState_ent, entF2, decS, dec_ok encI_State_inj, dec_ok I_inj, Option.bind_some]
  refine Eq.trans ?_ ((congrArg (Option.map fun r => ((I (r) : V), ([] : List V))) h))
  exact e
theorem laws_szState_good {G : Ground} (g18 : Good Try.prog G 18 laws_szStringS_ent) (g19 : Good Try.prog G 19 laws_szDutyS_ent) (g20 : Good Try.prog G 20 laws_szIntS_ent) : Good Try.prog G 9 laws_szState_ent := by
  refine good_of_run (E := laws_szState_E) (fnOf_good (by
    intro p hp
    simp only [List.mem_cons, List.not_mem_nil, or_false] at hp
    rcases hp with rfl | rfl | rfl
    · exact g18
    · exact g19
    · exact g20)) agree_mk (Checked.mixed Try.checked) Try.func9 (c := laws_szState_c) (n := 2) ⟨rfl, rfl, by decide⟩ ?_
  intro vs r os h
  obtain ⟨v0, v1, a_1, left_2, rfl, q0, q1, h9⟩ := entI2 h
  obtain rfl := dec_of q0
  obtain rfl := dec_of q1
  obtain ⟨r1, hr1, he⟩ := Option.map_eq_some_iff.1 h9
  cases he
  exact ⟨rfl, laws_szState_run a_1 left_2 r1 hr1⟩
noncomputable def laws_toStringS_c : Code := bodyOf Try.f22
noncomputable def laws_toStringS_E : Env := mkE Try.prog []
def laws_toStringS_Q (a_1 : List Str) (r : (List Str)) (st : St) : Prop := finish laws_toStringS_E Try.f22 [false] (enter Try.f22 [.isl false ((a_1).map str)]).1 st = some (.usl 1 ((r).map str), [])
theorem laws_toStringS_la_run (a_1 : List Str)  {Q : St → Prop} {K : List It} (hK : noD K = true) {x3 : Int × (List Str)} {y : ((List Str)) ⊕ ((List Str))} (h : laws_toStringS_la a_1 x3 = some y) : (∀ r', y = .inl r' → ∀ st, laws_toStringS_Q a_1 r' st → Q st) → (∀ u : (List Str), y = .inr u → Run laws_toStringS_E 0 Q K ⟨mkTm .dead 22 [(3, .hs 1 0 [] 1 0 (u).length)], mkS (rtL [⟨0, 1, (u).map str⟩] 1), 2⟩) → Run laws_toStringS_E 0 Q (.code (cL (cL (cR (cL (cR (cR laws_toStringS_c)))))) :: .lp (cL (cL (cR (cL (cR (cR laws_toStringS_c)))))) :: .blk 0 :: K) ⟨mkTm .dead 22 [(0, .isl false ((a_1).map str)), (3, .hs 1 0 [] 1 0 (x3.2).length), (4, I (x3.1))], mkS (rtL [⟨0, 1, (x3.2).map str⟩] 1), 2⟩ := by
  refine fix_ind (P := fun (x3 : Int × (List Str)) (y : ((List Str)) ⊕ ((List Str))) => (∀ r', y = .inl r' → ∀ st, laws_toStringS_Q a_1 r' st → Q st) → (∀ u : (List Str), y = .inr u → Run laws_toStringS_E 0 Q K ⟨mkTm .dead 22 [(3, .hs 1 0 [] 1 0 (u).length)], mkS (rtL [⟨0, 1, (u).map str⟩] 1), 2⟩) → Run laws_toStringS_E 0 Q (.code (cL (cL (cR (cL (cR (cR laws_toStringS_c)))))) :: .lp (cL (cL (cR (cL (cR (cR laws_toStringS_c)))))) :: .blk 0 :: K) ⟨mkTm .dead 22 [(0, .isl false ((a_1).map str)), (3, .hs 1 0 [] 1 0 (x3.2).length), (4, I (x3.1))], mkS (rtL [⟨0, 1, (x3.2).map str⟩] 1), 2⟩) (laws_toStringS_la_fin a_1) ?_ h
  clear h y x3
  intro self ih x3 y h hr hn
  unfold laws_toStringS_la_F at h
  refine s_seq rfl ?_
  refine s_seq rfl ?_
  refine s_reg rfl ?_
  refine o 18 (I (x3.1)) rfl rfl (e_move rfl) ?_
  refine o 34 (.isl false ((a_1).map str)) rfl rfl (e_move rfl) ?_
  refine o 50 (I ((len a_1))) rfl rfl (e_len rfl rfl rfl (l_isl rfl)) ?_
  refine o 66 (B ((decide (x3.1 < (len a_1))))) rfl rfl (e_bin rfl rfl rfl) ?_
  refine s_ops ?_
  refine s_cond rfl rfl (fun hb => ?_) (fun hb => ?_)
  · replace h := cT hb h
    refine s_skip rfl ?_
    refine s_seq rfl ?_
    refine s_block rfl ?_
    refine s_reg rfl ?_
    refine o 82 (.hs 1 0 [] 1 0 (x3.2).length) rfl rfl (e_move rfl) ?_
    refine o 98 (I (x3.1)) rfl rfl (e_move rfl) ?_
    refine o 114 (.isl false ((a_1).map str)) rfl rfl (e_move rfl) ?_
    refine o 130 (I (x3.1)) rfl rfl (e_move rfl) ?_
    obtain ⟨e4, he4, h⟩ := bS h
    refine o 146 (.iptr (str (e4)) 0) rfl rfl (e_indexAddr rfl rfl rfl (ix_islE rfl rfl rfl rfl he4)) ?_
    refine o 162 (str (e4)) rfl rfl (e_ld rfl rfl) ?_
    obtain ⟨e5, he5, h⟩ := bS h
    refine o 178 (.hp 1 0 [] 1 (0 + (x3.1).toNat) 0) rfl rfl (e_indexAddr rfl rfl rfl (ix_hs (xs := x3.2) rfl rfl rfl he5)) ?_
    refine o0 194 rfl rfl (e_st rfl rfl (st_at (path := []) (pl := true) (e' := str (e4)) (es2' := ((setI x3.2 x3.1 e4)).map str) rfl (absorb_plain rfl) rfl rfl rfl (ra_n) (get_map (f := str) (xs := x3.2) he5) rfl rfl rfl (set_map (f := str) (xs := x3.2) (y := e4)) (sr_n) 0 rfl)) ?_
    try rw [← len_setI (xs := x3.2) (i := x3.1) (y := e4)]
    refine s_ops ?_
    refine s_blk ?_
    refine s_reg rfl ?_
    refine o 210 (I (x3.1)) rfl rfl (e_move rfl) ?_
    refine o 226 (I ((w64 (x3.1 + 1)))) rfl rfl (e_bin rfl rfl rfl) ?_
    refine o 242 (I ((w64 (x3.1 + 1)))) rfl rfl (e_assign rfl) ?_
    refine s_ops ?_
    refine s_lp ?_
    refine run_forget [0, 3, 4] [1] [⟨0, 1, ((setI x3.2 x3.1 e4)).map str⟩] rfl rfl rfl rfl ?_
    exact ih _ _ h hr hn
  · replace h := cF hb h
    refine s_exit rfl rfl ?_
    refine run_forget [3] [1] [⟨0, 1, (x3.2).map str⟩] rfl rfl rfl hK ?_
    exact hn _ (Option.some.inj h).symm
theorem laws_toStringS_run (a_1 : List Str) (r : (List Str)) (h : laws_toStringS a_1 = some r) : Run laws_toStringS_E 0 (laws_toStringS_Q a_1 r) [.code laws_toStringS_c] (enter Try.f22 [.isl false ((a_1).map str)]).2 := by
  refine run_at (enter_eq (ys := [.isl false ((a_1).map str)]) (R := []) (n := 22) (l := [(0, .isl false ((a_1).map str))]) (nx := 1) rfl rfl rfl) ?_
  unfold laws_toStringS at h
  refine s_seq rfl ?_
  refine s_reg rfl ?_
  refine o 17 (.isl true []) rfl rfl (e_assign rfl) ?_
  refine s_ops ?_
  refine s_seq rfl ?_
  refine s_reg rfl ?_
  refine o 33 (.isl false ((a_1).map str)) rfl rfl (e_move rfl) ?_
  refine o 49 (I ((len a_1))) rfl rfl (e_len rfl rfl rfl (l_isl rfl)) ?_
  obtain ⟨m2, hm2, h⟩ := bS h
  refine o 65 (.hs 49 0 [] 1 0 (m2).length) rfl rfl (e_makeSlice rfl rfl (ms_mk (f := str) rfl rfl rfl (by decide) hm2 rfl)) ?_
  refine o 81 (.hs 49 0 [] 1 0 (m2).length) rfl rfl (e_assign rfl) ?_
  refine s_ops ?_
  refine s_seq rfl ?_
  refine s_seq rfl ?_
  refine s_reg rfl ?_
  refine o 97 (I (0)) rfl rfl (e_assign rfl) ?_
  refine s_ops ?_
  refine s_block rfl ?_
  obtain ⟨y6, hy6, hy61, hy62⟩ := bJ h
  refine s_loop rfl ?_
  refine run_forget [0, 3, 4] [49] [⟨0, 1, (m2).map str⟩] rfl rfl rfl rfl ?_
  refine laws_toStringS_la_run a_1 rfl hy6 (fun r' e st hq => by rw [hy61 r' e] at hq; exact hq) (fun u6 hu => ?_)
  replace h := hy62 u6 hu
  refine s_seq rfl ?_
  refine s_reg rfl ?_
  refine o 18 (.hs 1 0 [] 1 0 (u6).length) rfl rfl (e_move rfl) ?_
  refine o 34 (.hs 1 0 [] 1 0 (u6).length) rfl rfl (e_assign rfl) ?_
  refine s_ops ?_
  obtain rfl := Option.some.inj h
  exact s_ret rfl (fin (vs := [.hs 1 0 [] 1 0 (u6).length]) rfl (absE (abs1 rfl (abs_hs rfl (List.length_map ..).symm)) (absEN)) rfl rfl)
noncomputable def laws_toStringS_ent : Ent := ⟨[false], entF1 (decS str) fun a_1 => (laws_toStringS a_1).map fun r => (.usl 1 ((r).map str), [])⟩
theorem laws_toStringS_F {a_1 : List Str} {r : (List Str)} (h : laws_toStringS a_1 = some r) : laws_toStringS_ent.F [.isl false ((a_1).map str)] = some (.usl 1 ((r).map str), []) := by
  have e : laws_toStringS_ent.F [.isl false ((a_1).map str)] = (laws_toStringS a_1).map fun r => (.usl 1 ((r).map str), []) := by
    simp only [laws_toStringS_ent, entF1, decS, dec_ok (isl_inj str_inj), Option.bind_some]
  refine Eq.trans ?_ ((congrArg (Option.map fun r => ((.usl 1 ((r).map str) : V), ([] : List V))) h))
  exact e
theorem laws_toStringS_good {G : Ground} : Good Try.prog G 22 laws_toStringS_ent := by
  refine good_of_run (E := laws_toStringS_E) (fnOf_good (by simp)) agree_mk (Checked.mixed Try.checked) Try.func22 (c := laws_toStringS_c) (n := 1) ⟨rfl, rfl, by decide⟩ ?_
  intro vs r os h
  obtain ⟨v0, a_1, rfl, q0, h9⟩ := entI1 h
  obtain rfl := dec_of q0
  obtain ⟨r1, hr1, he⟩ := Option.map_eq_some_iff.1 h9
  cases he
  exact ⟨rfl, laws_toStringS_run a_1 r1 hr1⟩
noncomputable def laws_toDuty_c : Code := bodyOf Try.f34
noncomputable def laws_toDuty_E : Env := mkE Try.prog []
def laws_toDuty_Q (a_1 : Duty) (r : Duty) (st : St) : Prop := finish laws_toDuty_E Try.f34 [false] (enter Try.f34 [.agg [I (a_1.Clause), I (a_1.Since), I (a_1.Due), I (a_1.Status)]]).1 st = some (.agg [I (r.Clause), I (r.Since), I (r.Due), I (r.Status)], [])
theorem laws_toDuty_run (a_1 : Duty) (r : Duty) (h : laws_toDuty a_1 = some r) : Run laws_toDuty_E 0 (laws_toDuty_Q a_1 r) [.code laws_toDuty_c] (enter Try.f34 [.agg [I (a_1.Clause), I (a_1.Since), I (a_1.Due), I (a_1.Status)]]).2 := by
  refine run_at (enter_eq (ys := [.agg [I (a_1.Clause), I (a_1.Since), I (a_1.Due), I (a_1.Status)]]) (R := []) (n := 17) (l := [(0, .agg [I (a_1.Clause), I (a_1.Since), I (a_1.Due), I (a_1.Status)])]) (nx := 1) rfl rfl rfl) ?_
  unfold laws_toDuty at h
  refine s_seq rfl ?_
  refine s_reg rfl ?_
  refine o 17 (.hp 1 0 [] 4 0 0) rfl rfl (e_boxP rfl rfl rfl) ?_
  refine o 33 (.hp 17 0 [] 4 0 0) rfl rfl (e_allocP (z := .agg [I (0), I (0), I (0), I (0)]) rfl rfl rfl) ?_
  refine s_ops ?_
  refine s_seq rfl ?_
  refine s_reg rfl ?_
  refine o 49 (.hp 33 0 [] 4 0 0) rfl rfl (e_allocP (z := .agg [I (0), I (0), I (0), I (0)]) rfl rfl rfl) ?_
  refine s_ops ?_
  refine s_seq rfl ?_
  refine s_reg rfl ?_
  refine o 65 (.hp 1 0 [] 4 0 0) rfl rfl (e_fieldAddr rfl rfl rfl) ?_
  refine o 81 (I (a_1.Clause)) rfl rfl (e_ld rfl rfl) ?_
  refine o 97 (.hp 33 0 [] 4 0 0) rfl rfl (e_fieldAddr rfl rfl rfl) ?_
  refine o0 113 rfl rfl (e_st rfl rfl (st_at (path := []) (pl := true) (e' := .agg [I (a_1.Clause), I (0), I (0), I (0)]) (es2' := [.agg [I (a_1.Clause), I (0), I (0), I (0)]]) rfl (absorb_plain rfl) rfl rfl rfl (ra_n) rfl rfl rfl rfl rfl (sr_n) 0 rfl)) ?_
  refine s_ops ?_
  refine s_seq rfl ?_
  refine s_reg rfl ?_
  refine o 129 (.hp 1 0 [] 4 0 1) rfl rfl (e_fieldAddr rfl rfl rfl) ?_
  refine o 145 (I (a_1.Since)) rfl rfl (e_ld rfl rfl) ?_
  refine o 161 (.hp 33 0 [] 4 0 1) rfl rfl (e_fieldAddr rfl rfl rfl) ?_
  refine o0 177 rfl rfl (e_st rfl rfl (st_at (path := []) (pl := true) (e' := .agg [I (a_1.Clause), I (a_1.Since), I (0), I (0)]) (es2' := [.agg [I (a_1.Clause), I (a_1.Since), I (0), I (0)]]) rfl (absorb_plain rfl) rfl rfl rfl (ra_n) rfl rfl rfl rfl rfl (sr_n) 0 rfl)) ?_
  refine s_ops ?_
  refine s_seq rfl ?_
  refine s_reg rfl ?_
  refine o 193 (.hp 1 0 [] 4 0 2) rfl rfl (e_fieldAddr rfl rfl rfl) ?_
  refine o 209 (I (a_1.Due)) rfl rfl (e_ld rfl rfl) ?_
  refine o 225 (.hp 33 0 [] 4 0 2) rfl rfl (e_fieldAddr rfl rfl rfl) ?_
  refine o0 241 rfl rfl (e_st rfl rfl (st_at (path := []) (pl := true) (e' := .agg [I (a_1.Clause), I (a_1.Since), I (a_1.Due), I (0)]) (es2' := [.agg [I (a_1.Clause), I (a_1.Since), I (a_1.Due), I (0)]]) rfl (absorb_plain rfl) rfl rfl rfl (ra_n) rfl rfl rfl rfl rfl (sr_n) 0 rfl)) ?_
  refine s_ops ?_
  refine s_seq rfl ?_
  refine s_reg rfl ?_
  refine o 257 (.hp 1 0 [] 4 0 3) rfl rfl (e_fieldAddr rfl rfl rfl) ?_
  refine o 273 (I (a_1.Status)) rfl rfl (e_ld rfl rfl) ?_
  refine o 289 (.hp 33 0 [] 4 0 3) rfl rfl (e_fieldAddr rfl rfl rfl) ?_
  refine o0 305 rfl rfl (e_st rfl rfl (st_at (path := []) (pl := true) (e' := .agg [I (a_1.Clause), I (a_1.Since), I (a_1.Due), I (a_1.Status)]) (es2' := [.agg [I (a_1.Clause), I (a_1.Since), I (a_1.Due), I (a_1.Status)]]) rfl (absorb_plain rfl) rfl rfl rfl (ra_n) rfl rfl rfl rfl rfl (sr_n) 0 rfl)) ?_
  refine s_ops ?_
  refine s_seq rfl ?_
  refine s_reg rfl ?_
  refine o 321 (.agg [I (a_1.Clause), I (a_1.Since), I (a_1.Due), I (a_1.Status)]) rfl rfl (e_ld rfl rfl) ?_
  refine o0 337 rfl rfl (e_st rfl rfl (st_at (path := []) (pl := true) (e' := .agg [I (a_1.Clause), I (a_1.Since), I (a_1.Due), I (a_1.Status)]) (es2' := [.agg [I (a_1.Clause), I (a_1.Since), I (a_1.Due), I (a_1.Status)]]) rfl (absorb_plain rfl) rfl rfl rfl (ra_n) rfl rfl rfl rfl rfl (sr_n) 0 rfl)) ?_
  refine s_ops ?_
  obtain rfl := Option.some.inj h
  exact s_ret rfl (fin (vs := [.agg [I (a_1.Clause), I (a_1.Since), I (a_1.Due), I (a_1.Status)]]) (rs_c (rs_cell rfl rfl rfl) (rs_n)) (absE (absorb_plain rfl) (absEN)) rfl rfl)
noncomputable def laws_toDuty_ent : Ent := ⟨[false], entF1 (decBy enc_Duty) fun a_1 => (laws_toDuty a_1).map fun r => (.agg [I (r.Clause), I (r.Since), I (r.Due), I (r.Status)], [])⟩
theorem laws_toDuty_F {a_1 : Duty} {r : Duty} (h : laws_toDuty a_1 = some r) : laws_toDuty_ent.F [.agg [I (a_1.Clause), I (a_1.Since), I (a_1.Due), I (a_1.Status)]] = some (.agg [I (r.Clause), I (r.Since), I (r.Due), I (r.Status)], []) := by
  have e : laws_toDuty_ent.F [enc_Duty a_1] = (laws_toDuty a_1).map fun r => (.agg [I (r.Clause), I (r.Since), I (r.Due), I (r.Status)], []) := by
    simp only [laws_toDuty_ent, entF1, decS, dec_ok enc_Duty_inj, Option.bind_some]
  refine Eq.trans ?_ ((congrArg (Option.map fun r => ((.agg [I (r.Clause), I (r.Since), I (r.Due), I (r.Status)] : V), ([] : List V))) h))
  exact e
theorem laws_toDuty_good {G : Ground} : Good Try.prog G 34 laws_toDuty_ent := by
  refine good_of_run (E := laws_toDuty_E) (fnOf_good (by simp)) agree_mk (Checked.mixed Try.checked) Try.func34 (c := laws_toDuty_c) (n := 1) ⟨rfl, rfl, by decide⟩ ?_
  intro vs r os h
  obtain ⟨v0, a_1, rfl, q0, h9⟩ := entI1 h
  obtain rfl := dec_of q0
  obtain ⟨r1, hr1, he⟩ := Option.map_eq_some_iff.1 h9
  cases he
  exact ⟨rfl, laws_toDuty_run a_1 r1 hr1⟩
noncomputable def laws_toDutyS_c : Code := bodyOf Try.f23
noncomputable def laws_toDutyS_E : Env := mkE Try.prog [(34, laws_toDuty_ent)]
def laws_toDutyS_Q (a_1 : List Duty) (r : (List Duty)) (st : St) : Prop := finish laws_toDutyS_E Try.f23 [false] (enter Try.f23 [.isl false ((a_1).map enc_Duty)]).1 st = some (.usl 4 ((r).map enc_Duty), [])
theorem laws_toDutyS_la_run (a_1 : List Duty)  {Q : St → Prop} {K : List It} (hK : noD K = true) {x3 : Int × (List Duty)} {y : ((List Duty)) ⊕ ((List Duty))} (h : laws_toDutyS_la a_1 x3 = some y) : (∀ r', y = .inl r' → ∀ st, laws_toDutyS_Q a_1 r' st → Q st) → (∀ u : (List Duty), y = .inr u → Run laws_toDutyS_E 0 Q K ⟨mkTm .dead 23 [(3, .hs 1 0 [] 4 0 (u).length)], mkS (rtL [⟨0, 4, (u).map enc_Duty⟩] 1), 2⟩) → Run laws_toDutyS_E 0 Q (.code (cL (cL (cR (cL (cR (cR laws_toDutyS_c)))))) :: .lp (cL (cL (cR (cL (cR (cR laws_toDutyS_c)))))) :: .blk 0 :: K) ⟨mkTm .dead 23 [(0, .isl false ((a_1).map enc_Duty)), (3, .hs 1 0 [] 4 0 (x3.2).length), (4, I (x3.1))], mkS (rtL [⟨0, 4, (x3.2).map enc_Duty⟩] 1), 2⟩ := by
  refine fix_ind (P := fun (x3 : Int × (List Duty)) (y : ((List Duty)) ⊕ ((List Duty))) => (∀ r', y = .inl r' → ∀ st, laws_toDutyS_Q a_1 r' st → Q st) → (∀ u : (List Duty), y = .inr u → Run laws_toDutyS_E 0 Q K ⟨mkTm .dead 23 [(3, .hs 1 0 [] 4 0 (u).length)], mkS (rtL [⟨0, 4, (u).map enc_Duty⟩] 1), 2⟩) → Run laws_toDutyS_E 0 Q (.code (cL (cL (cR (cL (cR (cR laws_toDutyS_c)))))) :: .lp (cL (cL (cR (cL (cR (cR laws_toDutyS_c)))))) :: .blk 0 :: K) ⟨mkTm .dead 23 [(0, .isl false ((a_1).map enc_Duty)), (3, .hs 1 0 [] 4 0 (x3.2).length), (4, I (x3.1))], mkS (rtL [⟨0, 4, (x3.2).map enc_Duty⟩] 1), 2⟩) (laws_toDutyS_la_fin a_1) ?_ h
  clear h y x3
  intro self ih x3 y h hr hn
  unfold laws_toDutyS_la_F at h
  refine s_seq rfl ?_
  refine s_seq rfl ?_
  refine s_reg rfl ?_
  refine o 18 (I (x3.1)) rfl rfl (e_move rfl) ?_
  refine o 34 (.isl false ((a_1).map enc_Duty)) rfl rfl (e_move rfl) ?_
  refine o 50 (I ((len a_1))) rfl rfl (e_len rfl rfl rfl (l_isl rfl)) ?_
  refine o 66 (B ((decide (x3.1 < (len a_1))))) rfl rfl (e_bin rfl rfl rfl) ?_
  refine s_ops ?_
  refine s_cond rfl rfl (fun hb => ?_) (fun hb => ?_)
  · replace h := cT hb h
    refine s_skip rfl ?_
    refine s_seq rfl ?_
    refine s_block rfl ?_
    refine s_reg rfl ?_
    refine o 82 (.hs 1 0 [] 4 0 (x3.2).length) rfl rfl (e_move rfl) ?_
    refine o 98 (I (x3.1)) rfl rfl (e_move rfl) ?_
    refine o 114 (.isl false ((a_1).map enc_Duty)) rfl rfl (e_move rfl) ?_
    refine o 130 (I (x3.1)) rfl rfl (e_move rfl) ?_
    obtain ⟨e4, he4, h⟩ := bS h
    refine o 146 (.iptr (.agg [I (e4.Clause), I (e4.Since), I (e4.Due), I (e4.Status)]) 0) rfl rfl (e_indexAddr rfl rfl rfl (ix_islE rfl rfl rfl rfl he4)) ?_
    refine o 162 (.agg [I (e4.Clause), I (e4.Since), I (e4.Due), I (e4.Status)]) rfl rfl (e_ld rfl rfl) ?_
    obtain ⟨r5, hr5, h⟩ := bS h
    refine o 178 (.agg [I (r5.Clause), I (r5.Since), I (r5.Due), I (r5.Status)]) rfl rfl (e_callV rfl rfl (call_q rfl rfl rfl (avS (shP rfl) (avN)) (laws_toDuty_F hr5) rfl rfl rfl)) ?_
    obtain ⟨e6, he6, h⟩ := bS h
    refine o 194 (.hp 1 0 [] 4 (0 + (x3.1).toNat) 0) rfl rfl (e_indexAddr rfl rfl rfl (ix_hs (xs := x3.2) rfl rfl rfl he6)) ?_
    refine o0 210 rfl rfl (e_st rfl rfl (st_at (path := []) (pl := true) (e' := .agg [I (r5.Clause), I (r5.Since), I (r5.Due), I (r5.Status)]) (es2' := ((setI x3.2 x3.1 r5)).map enc_Duty) rfl (absorb_plain rfl) rfl rfl rfl (ra_n) (get_map (f := enc_Duty) (xs := x3.2) he6) rfl rfl rfl (set_map (f := enc_Duty) (xs := x3.2) (y := r5)) (sr_n) 0 rfl)) ?_
    try rw [← len_setI (xs := x3.2) (i := x3.1) (y := r5)]
    refine s_ops ?_
    refine s_blk ?_
    refine s_reg rfl ?_
    refine o 226 (I (x3.1)) rfl rfl (e_move rfl) ?_
    refine o 242 (I ((w64 (x3.1 + 1)))) rfl rfl (e_bin rfl rfl rfl) ?_
    refine o 258 (I ((w64 (x3.1 + 1)))) rfl rfl (e_assign rfl) ?_
    refine s_ops ?_
    refine s_lp ?_
    refine run_forget [0, 3, 4] [1] [⟨0, 4, ((setI x3.2 x3.1 r5)).map enc_Duty⟩] rfl rfl rfl rfl ?_
    exact ih _ _ h hr hn
  · replace h := cF hb h
    refine s_exit rfl rfl ?_
    refine run_forget [3] [1] [⟨0, 4, (x3.2).map enc_Duty⟩] rfl rfl rfl hK ?_
    exact hn _ (Option.some.inj h).symm
theorem laws_toDutyS_run (a_1 : List Duty) (r : (List Duty)) (h : laws_toDutyS a_1 = some r) : Run laws_toDutyS_E 0 (laws_toDutyS_Q a_1 r) [.code laws_toDutyS_c] (enter Try.f23 [.isl false ((a_1).map enc_Duty)]).2 := by
  refine run_at (enter_eq (ys := [.isl false ((a_1).map enc_Duty)]) (R := []) (n := 23) (l := [(0, .isl false ((a_1).map enc_Duty))]) (nx := 1) rfl rfl rfl) ?_
  unfold laws_toDutyS at h
  refine s_seq rfl ?_
  refine s_reg rfl ?_
  refine o 17 (.isl true []) rfl rfl (e_assign rfl) ?_
  refine s_ops ?_
  refine s_seq rfl ?_
  refine s_reg rfl ?_
  refine o 33 (.isl false ((a_1).map enc_Duty)) rfl rfl (e_move rfl) ?_
  refine o 49 (I ((len a_1))) rfl rfl (e_len rfl rfl rfl (l_isl rfl)) ?_
  obtain ⟨m2, hm2, h⟩ := bS h
  refine o 65 (.hs 49 0 [] 4 0 (m2).length) rfl rfl (e_makeSlice rfl rfl (ms_mk (f := enc_Duty) rfl rfl rfl (by decide) hm2 rfl)) ?_
  refine o 81 (.hs 49 0 [] 4 0 (m2).length) rfl rfl (e_assign rfl) ?_
  refine s_ops ?_
  refine s_seq rfl ?_
  refine s_seq rfl ?_
  refine s_reg rfl ?_
  refine o 97 (I (0)) rfl rfl (e_assign rfl) ?_
  refine s_ops ?_
  refine s_block rfl ?_
  obtain ⟨y7, hy7, hy71, hy72⟩ := bJ h
  refine s_loop rfl ?_
  refine run_forget [0, 3, 4] [49] [⟨0, 4, (m2).map enc_Duty⟩] rfl rfl rfl rfl ?_
  refine laws_toDutyS_la_run a_1 rfl hy7 (fun r' e st hq => by rw [hy71 r' e] at hq; exact hq) (fun u7 hu => ?_)
  replace h := hy72 u7 hu
  refine s_seq rfl ?_
  refine s_reg rfl ?_
  refine o 18 (.hs 1 0 [] 4 0 (u7).length) rfl rfl (e_move rfl) ?_
  refine o 34 (.hs 1 0 [] 4 0 (u7).length) rfl rfl (e_assign rfl) ?_
  refine s_ops ?_
  obtain rfl := Option.some.inj h
  exact s_ret rfl (fin (vs := [.hs 1 0 [] 4 0 (u7).length]) rfl (absE (abs1 rfl (abs_hs rfl (List.length_map ..).symm)) (absEN)) rfl rfl)
noncomputable def laws_toDutyS_ent : Ent := ⟨[false], entF1 (decS enc_Duty) fun a_1 => (laws_toDutyS a_1).map fun r => (.usl 4 ((r).map enc_Duty), [])⟩
theorem laws_toDutyS_F {a_1 : List Duty} {r : (List Duty)} (h : laws_toDutyS a_1 = some r) : laws_toDutyS_ent.F [.isl false ((a_1).map enc_Duty)] = some (.usl 4 ((r).map enc_Duty), []) := by
  have e : laws_toDutyS_ent.F [.isl false ((a_1).map enc_Duty)] = (laws_toDutyS a_1).map fun r => (.usl 4 ((r).map enc_Duty), []) := by
    simp only [laws_toDutyS_ent, entF1, decS, dec_ok (isl_inj enc_Duty_inj), Option.bind_some]
  refine Eq.trans ?_ ((congrArg (Option.map fun r => ((.usl 4 ((r).map enc_Duty) : V), ([] : List V))) h))
  exact e
theorem laws_toDutyS_good {G : Ground} (g34 : Good Try.prog G 34 laws_toDuty_ent) : Good Try.prog G 23 laws_toDutyS_ent := by
  refine good_of_run (E := laws_toDutyS_E) (fnOf_good (by
    intro p hp
    simp only [List.mem_cons, List.not_mem_nil, or_false] at hp
    rcases hp with rfl
    · exact g34)) agree_mk (Checked.mixed Try.checked) Try.func23 (c := laws_toDutyS_c) (n := 1) ⟨rfl, rfl, by decide⟩ ?_
  intro vs r os h
  obtain ⟨v0, a_1, rfl, q0, h9⟩ := entI1 h
  obtain rfl := dec_of q0
  obtain ⟨r1, hr1, he⟩ := Option.map_eq_some_iff.1 h9
  cases he
  exact ⟨rfl, laws_toDutyS_run a_1 r1 hr1⟩
noncomputable def laws_toIntS_c : Code := bodyOf Try.f24
noncomputable def laws_toIntS_E : Env := mkE Try.prog []
def laws_toIntS_Q (a_1 : List Int) (r : (List Int)) (st : St) : Prop := finish laws_toIntS_E Try.f24 [false] (enter Try.f24 [.isl false ((a_1).map I)]).1 st = some (.usl 1 ((r).map I), [])
theorem laws_toIntS_la_run (a_1 : List Int)  {Q : St → Prop} {K : List It} (hK : noD K = true) {x3 : Int × (List Int)} {y : ((List Int)) ⊕ ((List Int))} (h : laws_toIntS_la a_1 x3 = some y) : (∀ r', y = .inl r' → ∀ st, laws_toIntS_Q a_1 r' st → Q st) → (∀ u : (List Int), y = .inr u → Run laws_toIntS_E 0 Q K ⟨mkTm .dead 22 [(3, .hs 1 0 [] 1 0 (u).length)], mkS (rtL [⟨0, 1, (u).map I⟩] 1), 2⟩) → Run laws_toIntS_E 0 Q (.code (cL (cL (cR (cL (cR (cR laws_toIntS_c)))))) :: .lp (cL (cL (cR (cL (cR (cR laws_toIntS_c)))))) :: .blk 0 :: K) ⟨mkTm .dead 22 [(0, .isl false ((a_1).map I)), (3, .hs 1 0 [] 1 0 (x3.2).length), (4, I (x3.1))], mkS (rtL [⟨0, 1, (x3.2).map I⟩] 1), 2⟩ := by
  refine fix_ind (P := fun (x3 : Int × (List Int)) (y : ((List Int)) ⊕ ((List Int))) => (∀ r', y = .inl r' → ∀ st, laws_toIntS_Q a_1 r' st → Q st) → (∀ u : (List Int), y = .inr u → Run laws_toIntS_E 0 Q K ⟨mkTm .dead 22 [(3, .hs 1 0 [] 1 0 (u).length)], mkS (rtL [⟨0, 1, (u).map I⟩] 1), 2⟩) → Run laws_toIntS_E 0 Q (.code (cL (cL (cR (cL (cR (cR laws_toIntS_c)))))) :: .lp (cL (cL (cR (cL (cR (cR laws_toIntS_c)))))) :: .blk 0 :: K) ⟨mkTm .dead 22 [(0, .isl false ((a_1).map I)), (3, .hs 1 0 [] 1 0 (x3.2).length), (4, I (x3.1))], mkS (rtL [⟨0, 1, (x3.2).map I⟩] 1), 2⟩) (laws_toIntS_la_fin a_1) ?_ h
  clear h y x3
  intro self ih x3 y h hr hn
  unfold laws_toIntS_la_F at h
  refine s_seq rfl ?_
  refine s_seq rfl ?_
  refine s_reg rfl ?_
  refine o 18 (I (x3.1)) rfl rfl (e_move rfl) ?_
  refine o 34 (.isl false ((a_1).map I)) rfl rfl (e_move rfl) ?_
  refine o 50 (I ((len a_1))) rfl rfl (e_len rfl rfl rfl (l_isl rfl)) ?_
  refine o 66 (B ((decide (x3.1 < (len a_1))))) rfl rfl (e_bin rfl rfl rfl) ?_
  refine s_ops ?_
  refine s_cond rfl rfl (fun hb => ?_) (fun hb => ?_)
  · replace h := cT hb h
    refine s_skip rfl ?_
    refine s_seq rfl ?_
    refine s_block rfl ?_
    refine s_reg rfl ?_
    refine o 82 (.hs 1 0 [] 1 0 (x3.2).length) rfl rfl (e_move rfl) ?_
    refine o 98 (I (x3.1)) rfl rfl (e_move rfl) ?_
    refine o 114 (.isl false ((a_1).map I)) rfl rfl (e_move rfl) ?_
    refine o 130 (I (x3.1)) rfl rfl (e_move rfl) ?_
    obtain ⟨e4, he4, h⟩ := bS h
    refine o 146 (.iptr (I (e4)) 0) rfl rfl (e_indexAddr rfl rfl rfl (ix_islE rfl rfl rfl rfl he4)) ?_
    refine o 162 (I (e4)) rfl rfl (e_ld rfl rfl) ?_
    obtain ⟨e5, he5, h⟩ := bS h
    refine o 178 (.hp 1 0 [] 1 (0 + (x3.1).toNat) 0) rfl rfl (e_indexAddr rfl rfl rfl (ix_hs (xs := x3.2) rfl rfl rfl he5)) ?_
    refine o0 194 rfl rfl (e_st rfl rfl (st_at (path := []) (pl := true) (e' := I (e4)) (es2' := ((setI x3.2 x3.1 e4)).map I) rfl (absorb_plain rfl) rfl rfl rfl (ra_n) (get_map (f := I) (xs := x3.2) he5) rfl rfl rfl (set_map (f := I) (xs := x3.2) (y := e4)) (sr_n) 0 rfl)) ?_
    try rw [← len_setI (xs := x3.2) (i := x3.1) (y := e4)]
    refine s_ops ?_
    refine s_blk ?_
    refine s_reg rfl ?_
    refine o 210 (I (x3.1)) rfl rfl (e_move rfl) ?_
    refine o 226 (I ((w64 (x3.1 + 1)))) rfl rfl (e_bin rfl rfl rfl) ?_
    refine o 242 (I ((w64 (x3.1 + 1)))) rfl rfl (e_assign rfl) ?_
    refine s_ops ?_
    refine s_lp ?_
    refine run_forget [0, 3, 4] [1] [⟨0, 1, ((setI x3.2 x3.1 e4)).map I⟩] rfl rfl rfl rfl ?_
    exact ih _ _ h hr hn
  · replace h := cF hb h
    refine s_exit rfl rfl ?_
    refine run_forget [3] [1] [⟨0, 1, (x3.2).map I⟩] rfl rfl rfl hK ?_
    exact hn _ (Option.some.inj h).symm
theorem laws_toIntS_run (a_1 : List Int) (r : (List Int)) (h : laws_toIntS a_1 = some r) : Run laws_toIntS_E 0 (laws_toIntS_Q a_1 r) [.code laws_toIntS_c] (enter Try.f24 [.isl false ((a_1).map I)]).2 := by
  refine run_at (enter_eq (ys := [.isl false ((a_1).map I)]) (R := []) (n := 22) (l := [(0, .isl false ((a_1).map I))]) (nx := 1) rfl rfl rfl) ?_
  unfold laws_toIntS at h
  refine s_seq rfl ?_
  refine s_reg rfl ?_
  refine o 17 (.isl true []) rfl rfl (e_assign rfl) ?_
  refine s_ops ?_
  refine s_seq rfl ?_
  refine s_reg rfl ?_
  refine o 33 (.isl false ((a_1).map I)) rfl rfl (e_move rfl) ?_
  refine o 49 (I ((len a_1))) rfl rfl (e_len rfl rfl rfl (l_isl rfl)) ?_
  obtain ⟨m2, hm2, h⟩ := bS h
  refine o 65 (.hs 49 0 [] 1 0 (m2).length) rfl rfl (e_makeSlice rfl rfl (ms_mk (f := I) rfl rfl rfl (by decide) hm2 rfl)) ?_
  refine o 81 (.hs 49 0 [] 1 0 (m2).length) rfl rfl (e_assign rfl) ?_
  refine s_ops ?_
  refine s_seq rfl ?_
  refine s_seq rfl ?_
  refine s_reg rfl ?_
  refine o 97 (I (0)) rfl rfl (e_assign rfl) ?_
  refine s_ops ?_
  refine s_block rfl ?_
  obtain ⟨y6, hy6, hy61, hy62⟩ := bJ h
  refine s_loop rfl ?_
  refine run_forget [0, 3, 4] [49] [⟨0, 1, (m2).map I⟩] rfl rfl rfl rfl ?_
  refine laws_toIntS_la_run a_1 rfl hy6 (fun r' e st hq => by rw [hy61 r' e] at hq; exact hq) (fun u6 hu => ?_)
  replace h := hy62 u6 hu
  refine s_seq rfl ?_
  refine s_reg rfl ?_
  refine o 18 (.hs 1 0 [] 1 0 (u6).length) rfl rfl (e_move rfl) ?_
  refine o 34 (.hs 1 0 [] 1 0 (u6).length) rfl rfl (e_assign rfl) ?_
  refine s_ops ?_
  obtain rfl := Option.some.inj h
  exact s_ret rfl (fin (vs := [.hs 1 0 [] 1 0 (u6).length]) rfl (absE (abs1 rfl (abs_hs rfl (List.length_map ..).symm)) (absEN)) rfl rfl)
noncomputable def laws_toIntS_ent : Ent := ⟨[false], entF1 (decS I) fun a_1 => (laws_toIntS a_1).map fun r => (.usl 1 ((r).map I), [])⟩
theorem laws_toIntS_F {a_1 : List Int} {r : (List Int)} (h : laws_toIntS a_1 = some r) : laws_toIntS_ent.F [.isl false ((a_1).map I)] = some (.usl 1 ((r).map I), []) := by
  have e : laws_toIntS_ent.F [.isl false ((a_1).map I)] = (laws_toIntS a_1).map fun r => (.usl 1 ((r).map I), []) := by
    simp only [laws_toIntS_ent, entF1, decS, dec_ok (isl_inj I_inj), Option.bind_some]
  refine Eq.trans ?_ ((congrArg (Option.map fun r => ((.usl 1 ((r).map I) : V), ([] : List V))) h))
  exact e
theorem laws_toIntS_good {G : Ground} : Good Try.prog G 24 laws_toIntS_ent := by
  refine good_of_run (E := laws_toIntS_E) (fnOf_good (by simp)) agree_mk (Checked.mixed Try.checked) Try.func24 (c := laws_toIntS_c) (n := 1) ⟨rfl, rfl, by decide⟩ ?_
  intro vs r os h
  obtain ⟨v0, a_1, rfl, q0, h9⟩ := entI1 h
  obtain rfl := dec_of q0
  obtain ⟨r1, hr1, he⟩ := Option.map_eq_some_iff.1 h9
  cases he
  exact ⟨rfl, laws_toIntS_run a_1 r1 hr1⟩
noncomputable def laws_toState_c : Code := bodyOf Try.f11
noncomputable def laws_toState_E : Env := mkE Try.prog [(22, laws_toStringS_ent), (23, laws_toDutyS_ent), (24, laws_toIntS_ent)]
def laws_toState_Q (a_1 : State) (r : State) (st : St) : Prop := finish laws_toState_E Try.f11 [false] (enter Try.f11 [.agg [I (a_1.Day), .isl false ((a_1.Facts).map str), .isl false ((a_1.Duties).map enc_Duty), .isl false ((a_1.Balances).map I), B (a_1.Over)]]).1 st = some (.agg [I (r.Day), .usl 1 ((r.Facts).map str), .usl 4 ((r.Duties).map enc_Duty), .usl 1 ((r.Balances).map I), B (r.Over)], [])
theorem laws_toState_run (a_1 : State) (r : State) (h : laws_toState a_1 = some r) : Run laws_toState_E 0 (laws_toState_Q a_1 r) [.code laws_toState_c] (enter Try.f11 [.agg [I (a_1.Day), .isl false ((a_1.Facts).map str), .isl false ((a_1.Duties).map enc_Duty), .isl false ((a_1.Balances).map I), B (a_1.Over)]]).2 := by
  refine run_at (enter_eq (ys := [.agg [I (a_1.Day), .isl false ((a_1.Facts).map str), .isl false ((a_1.Duties).map enc_Duty), .isl false ((a_1.Balances).map I), B (a_1.Over)]]) (R := []) (n := 23) (l := [(0, .agg [I (a_1.Day), .isl false ((a_1.Facts).map str), .isl false ((a_1.Duties).map enc_Duty), .isl false ((a_1.Balances).map I), B (a_1.Over)])]) (nx := 1) rfl rfl rfl) ?_
  unfold laws_toState at h
  refine s_seq rfl ?_
  refine s_reg rfl ?_
  refine o 17 (.hp 1 0 [] 5 0 0) rfl rfl (e_boxP rfl rfl rfl) ?_
  refine o 33 (.hp 17 0 [] 5 0 0) rfl rfl (e_allocP (z := .agg [I (0), .isl true [], .isl true [], .isl true [], B (false)]) rfl rfl rfl) ?_
  refine s_ops ?_
  refine s_seq rfl ?_
  refine s_reg rfl ?_
  refine o 49 (.hp 33 0 [] 5 0 0) rfl rfl (e_allocP (z := .agg [I (0), .isl true [], .isl true [], .isl true [], B (false)]) rfl rfl rfl) ?_
  refine s_ops ?_
  refine s_seq rfl ?_
  refine s_reg rfl ?_
  refine o 65 (.hp 1 0 [] 5 0 0) rfl rfl (e_fieldAddr rfl rfl rfl) ?_
  refine o 81 (I (a_1.Day)) rfl rfl (e_ld rfl rfl) ?_
  refine o 97 (.hp 33 0 [] 5 0 0) rfl rfl (e_fieldAddr rfl rfl rfl) ?_
  refine o0 113 rfl rfl (e_st rfl rfl (st_at (path := []) (pl := true) (e' := .agg [I (a_1.Day), .isl true [], .isl true [], .isl true [], B (false)]) (es2' := [.agg [I (a_1.Day), .isl true [], .isl true [], .isl true [], B (false)]]) rfl (absorb_plain rfl) rfl rfl rfl (ra_n) rfl rfl rfl rfl rfl (sr_n) 0 rfl)) ?_
  refine s_ops ?_
  refine s_seq rfl ?_
  refine s_reg rfl ?_
  refine o 129 (.hp 1 0 [] 5 0 1) rfl rfl (e_fieldAddr rfl rfl rfl) ?_
  refine o 145 (.isl false ((a_1.Facts).map str)) rfl rfl (e_ld rfl rfl) ?_
  obtain ⟨r2, hr2, h⟩ := bS h
  refine o 161 (.hs 145 0 [] 1 0 (r2).length) rfl rfl (e_callV rfl rfl (call_R (ys := [.hs 145 0 [] 1 0 (r2).length]) (R := [(0, 0, ⟨0, 1, (r2).map str⟩)]) rfl rfl rfl (avS (shP rfl) (avN)) (laws_toStringS_F hr2) (by simp [hasImm, hasImms, himm_map str_himm]) (by simp [inst1s, inst1, instC, cells, comps]) rfl rfl)) ?_
  refine o 177 (.hp 33 0 [] 5 0 1) rfl rfl (e_fieldAddr rfl rfl rfl) ?_
  refine o0 193 rfl rfl (e_st rfl rfl (st_at (path := []) (pl := false) (e' := .agg [I (a_1.Day), .usl 1 ((r2).map str), .isl true [], .isl true [], B (false)]) (es2' := [.agg [I (a_1.Day), .usl 1 ((r2).map str), .isl true [], .isl true [], B (false)]]) rfl (abs1 rfl (abs_hs rfl (List.length_map ..).symm)) rfl rfl rfl (ra_n) rfl rfl rfl rfl rfl (sr_n) 1 rfl)) ?_
  refine s_ops ?_
  refine s_seq rfl ?_
  refine s_reg rfl ?_
  refine o 209 (.hp 1 0 [] 5 0 2) rfl rfl (e_fieldAddr rfl rfl rfl) ?_
  refine o 225 (.isl false ((a_1.Duties).map enc_Duty)) rfl rfl (e_ld rfl rfl) ?_
  obtain ⟨r3, hr3, h⟩ := bS h
  refine o 241 (.hs 225 0 [] 4 0 (r3).length) rfl rfl (e_callV rfl rfl (call_R (ys := [.hs 225 0 [] 4 0 (r3).length]) (R := [(0, 0, ⟨0, 4, (r3).map enc_Duty⟩)]) rfl rfl rfl (avS (shP rfl) (avN)) (laws_toDutyS_F hr3) (by simp [hasImm, hasImms, himm_map enc_Duty_himm]) (by simp [inst1s, inst1, instC, cells, comps]) rfl rfl)) ?_
  refine o 257 (.hp 33 0 [] 5 0 2) rfl rfl (e_fieldAddr rfl rfl rfl) ?_
  refine o0 273 rfl rfl (e_st rfl rfl (st_at (path := []) (pl := false) (e' := .agg [I (a_1.Day), .usl 1 ((r2).map str), .usl 4 ((r3).map enc_Duty), .isl true [], B (false)]) (es2' := [.agg [I (a_1.Day), .usl 1 ((r2).map str), .usl 4 ((r3).map enc_Duty), .isl true [], B (false)]]) rfl (abs1 rfl (abs_hs rfl (List.length_map ..).symm)) rfl rfl rfl (ra_n) rfl rfl rfl rfl rfl (sr_n) 2 rfl)) ?_
  refine s_ops ?_
  refine s_seq rfl ?_
  refine s_reg rfl ?_
  refine o 289 (.hp 1 0 [] 5 0 3) rfl rfl (e_fieldAddr rfl rfl rfl) ?_
  refine o 305 (.isl false ((a_1.Balances).map I)) rfl rfl (e_ld rfl rfl) ?_
  obtain ⟨r4, hr4, h⟩ := bS h
  refine o 321 (.hs 305 0 [] 1 0 (r4).length) rfl rfl (e_callV rfl rfl (call_R (ys := [.hs 305 0 [] 1 0 (r4).length]) (R := [(0, 0, ⟨0, 1, (r4).map I⟩)]) rfl rfl rfl (avS (shP rfl) (avN)) (laws_toIntS_F hr4) (by simp [hasImm, hasImms, himm_map I_himm]) (by simp [inst1s, inst1, instC, cells, comps]) rfl rfl)) ?_
  refine o 337 (.hp 33 0 [] 5 0 3) rfl rfl (e_fieldAddr rfl rfl rfl) ?_
  refine o0 353 rfl rfl (e_st rfl rfl (st_at (path := []) (pl := false) (e' := .agg [I (a_1.Day), .usl 1 ((r2).map str), .usl 4 ((r3).map enc_Duty), .usl 1 ((r4).map I), B (false)]) (es2' := [.agg [I (a_1.Day), .usl 1 ((r2).map str), .usl 4 ((r3).map enc_Duty), .usl 1 ((r4).map I), B (false)]]) rfl (abs1 rfl (abs_hs rfl (List.length_map ..).symm)) rfl rfl rfl (ra_n) rfl rfl rfl rfl rfl (sr_n) 3 rfl)) ?_
  refine s_ops ?_
  refine s_seq rfl ?_
  refine s_reg rfl ?_
  refine o 369 (.hp 1 0 [] 5 0 4) rfl rfl (e_fieldAddr rfl rfl rfl) ?_
  refine o 385 (B (a_1.Over)) rfl rfl (e_ld rfl rfl) ?_
  refine o 401 (.hp 33 0 [] 5 0 4) rfl rfl (e_fieldAddr rfl rfl rfl) ?_
  refine o0 417 rfl rfl (e_st rfl rfl (st_at (path := []) (pl := true) (e' := .agg [I (a_1.Day), .usl 1 ((r2).map str), .usl 4 ((r3).map enc_Duty), .usl 1 ((r4).map I), B (a_1.Over)]) (es2' := [.agg [I (a_1.Day), .usl 1 ((r2).map str), .usl 4 ((r3).map enc_Duty), .usl 1 ((r4).map I), B (a_1.Over)]]) rfl (absorb_plain rfl) rfl rfl rfl (ra_n) rfl rfl rfl rfl rfl (sr_n) 3 rfl)) ?_
  refine s_ops ?_
  refine s_seq rfl ?_
  refine s_reg rfl ?_
  refine o 433 (.agg [I (a_1.Day), .hs 33 3 [(0, 1)] 1 0 (r2).length, .hs 33 3 [(0, 2)] 4 0 (r3).length, .hs 33 3 [(0, 3)] 1 0 (r4).length, B (a_1.Over)]) rfl rfl (e_ld rfl (ld_at (path := []) rfl rfl rfl (ra_n) rfl (vw_c rfl (vw_c vw_u (vw_c vw_u (vw_c vw_u (vw_c rfl (vw_n)))))) rfl rfl)) ?_
  refine o0 449 rfl rfl (e_st rfl rfl (st_at (path := []) (pl := false) (e' := .agg [I (a_1.Day), .usl 1 ((r2).map str), .usl 4 ((r3).map enc_Duty), .usl 1 ((r4).map I), B (a_1.Over)]) (es2' := [.agg [I (a_1.Day), .usl 1 ((r2).map str), .usl 4 ((r3).map enc_Duty), .usl 1 ((r4).map I), B (a_1.Over)]]) rfl (absA (absC (abs_p rfl) (absC (abs_at (path := [(0, 1)]) rfl rfl (ra_c rfl rfl (ra_n)) (List.length_map ..).symm (to_c (path := []) (i := 0) (k := 1) (e' := .agg [I (a_1.Day), .dead, .usl 4 ((r3).map enc_Duty), .usl 1 ((r4).map I), B (a_1.Over)]) (es2' := [.agg [I (a_1.Day), .dead, .usl 4 ((r3).map enc_Duty), .usl 1 ((r4).map I), B (a_1.Over)]]) (ra_n) rfl rfl rfl (sr_n))) (absC (abs_at (path := [(0, 2)]) rfl rfl (ra_c rfl rfl (ra_n)) (List.length_map ..).symm (to_c (path := []) (i := 0) (k := 2) (e' := .agg [I (a_1.Day), .dead, .dead, .usl 1 ((r4).map I), B (a_1.Over)]) (es2' := [.agg [I (a_1.Day), .dead, .dead, .usl 1 ((r4).map I), B (a_1.Over)]]) (ra_n) rfl rfl rfl (sr_n))) (absC (abs_at (path := [(0, 3)]) rfl rfl (ra_c rfl rfl (ra_n)) (List.length_map ..).symm (to_c (path := []) (i := 0) (k := 3) (e' := .agg [I (a_1.Day), .dead, .dead, .dead, B (a_1.Over)]) (es2' := [.agg [I (a_1.Day), .dead, .dead, .dead, B (a_1.Over)]]) (ra_n) rfl rfl rfl (sr_n))) (absC (abs_p rfl) (absN))))))) rfl rfl rfl (ra_n) rfl rfl rfl rfl rfl (sr_n) 1 rfl)) ?_
  refine s_ops ?_
  obtain rfl := Option.some.inj h
  exact s_ret rfl (fin (vs := [.agg [I (a_1.Day), .hs 17 1 [(0, 1)] 1 0 (r2).length, .hs 17 1 [(0, 2)] 4 0 (r3).length, .hs 17 1 [(0, 3)] 1 0 (r4).length, B (a_1.Over)]]) (rs_c (rs_cell rfl rfl (ld_at (path := []) rfl rfl rfl (ra_n) rfl (vw_c rfl (vw_c vw_u (vw_c vw_u (vw_c vw_u (vw_c rfl (vw_n)))))) rfl rfl)) (rs_n)) (absE (absA (absC (abs_p rfl) (absC (abs_at (path := [(0, 1)]) rfl rfl (ra_c rfl rfl (ra_n)) (List.length_map ..).symm (to_c (path := []) (i := 0) (k := 1) (e' := .agg [I (a_1.Day), .dead, .usl 4 ((r3).map enc_Duty), .usl 1 ((r4).map I), B (a_1.Over)]) (es2' := [.agg [I (a_1.Day), .dead, .usl 4 ((r3).map enc_Duty), .usl 1 ((r4).map I), B (a_1.Over)]]) (ra_n) rfl rfl rfl (sr_n))) (absC (abs_at (path := [(0, 2)]) rfl rfl (ra_c rfl rfl (ra_n)) (List.length_map ..).symm (to_c (path := []) (i := 0) (k := 2) (e' := .agg [I (a_1.Day), .dead, .dead, .usl 1 ((r4).map I), B (a_1.Over)]) (es2' := [.agg [I (a_1.Day), .dead, .dead, .usl 1 ((r4).map I), B (a_1.Over)]]) (ra_n) rfl rfl rfl (sr_n))) (absC (abs_at (path := [(0, 3)]) rfl rfl (ra_c rfl rfl (ra_n)) (List.length_map ..).symm (to_c (path := []) (i := 0) (k := 3) (e' := .agg [I (a_1.Day), .dead, .dead, .dead, B (a_1.Over)]) (es2' := [.agg [I (a_1.Day), .dead, .dead, .dead, B (a_1.Over)]]) (ra_n) rfl rfl rfl (sr_n))) (absC (abs_p rfl) (absN))))))) (absEN)) rfl rfl)
noncomputable def laws_toState_ent : Ent := ⟨[false], entF1 (decBy encI_State) fun a_1 => (laws_toState a_1).map fun r => (.agg [I (r.Day), .usl 1 ((r.Facts).map str), .usl 4 ((r.Duties).map enc_Duty), .usl 1 ((r.Balances).map I), B (r.Over)], [])⟩
theorem laws_toState_F {a_1 : State} {r : State} (h : laws_toState a_1 = some r) : laws_toState_ent.F [.agg [I (a_1.Day), .isl false ((a_1.Facts).map str), .isl false ((a_1.Duties).map enc_Duty), .isl false ((a_1.Balances).map I), B (a_1.Over)]] = some (.agg [I (r.Day), .usl 1 ((r.Facts).map str), .usl 4 ((r.Duties).map enc_Duty), .usl 1 ((r.Balances).map I), B (r.Over)], []) := by
  have e : laws_toState_ent.F [encI_State a_1] = (laws_toState a_1).map fun r => (.agg [I (r.Day), .usl 1 ((r.Facts).map str), .usl 4 ((r.Duties).map enc_Duty), .usl 1 ((r.Balances).map I), B (r.Over)], []) := by
    simp only [laws_toState_ent, entF1, decS, dec_ok encI_State_inj, Option.bind_some]
  refine Eq.trans ?_ ((congrArg (Option.map fun r => ((.agg [I (r.Day), .usl 1 ((r.Facts).map str), .usl 4 ((r.Duties).map enc_Duty), .usl 1 ((r.Balances).map I), B (r.Over)] : V), ([] : List V))) h))
  exact e
theorem laws_toState_good {G : Ground} (g22 : Good Try.prog G 22 laws_toStringS_ent) (g23 : Good Try.prog G 23 laws_toDutyS_ent) (g24 : Good Try.prog G 24 laws_toIntS_ent) : Good Try.prog G 11 laws_toState_ent := by
  refine good_of_run (E := laws_toState_E) (fnOf_good (by
    intro p hp
    simp only [List.mem_cons, List.not_mem_nil, or_false] at hp
    rcases hp with rfl | rfl | rfl
    · exact g22
    · exact g23
    · exact g24)) agree_mk (Checked.mixed Try.checked) Try.func11 (c := laws_toState_c) (n := 1) ⟨rfl, rfl, by decide⟩ ?_
  intro vs r os h
  obtain ⟨v0, a_1, rfl, q0, h9⟩ := entI1 h
  obtain rfl := dec_of q0
  obtain ⟨r1, hr1, he⟩ := Option.map_eq_some_iff.1 h9
  cases he
  exact ⟨rfl, laws_toState_run a_1 r1 hr1⟩
noncomputable def spec_l1Same_c : Code := bodyOf Try.f33
noncomputable def spec_l1Same_E : Env := mkE Try.prog []
def spec_l1Same_Q (a_1 : List Int) (b_2 : List Int) (r : Bool) (st : St) : Prop := finish spec_l1Same_E Try.f33 [false, false] (enter Try.f33 [.isl false ((a_1).map I), .isl false ((b_2).map I)]).1 st = some (B (r), [])
theorem spec_l1Same_la_run (a_1 : List Int) (b_2 : List Int)  {Q : St → Prop} {K : List It} (hK : noD K = true) {x3 : Int} {y : Bool ⊕ Unit} (h : spec_l1Same_la a_1 b_2 x3 = some y) : (∀ r', y = .inl r' → ∀ st, spec_l1Same_Q a_1 b_2 r' st → Q st) → (∀ u : Unit, y = .inr u → Run spec_l1Same_E 0 Q K ⟨mkTm .dead 26 [], mkS (rtL [] 1), 1⟩) → Run spec_l1Same_E 0 Q (.code (cL (cL (cR (cL (cR (cR spec_l1Same_c)))))) :: .lp (cL (cL (cR (cL (cR (cR spec_l1Same_c)))))) :: .blk 0 :: K) ⟨mkTm .dead 26 [(0, .isl false ((a_1).map I)), (1, .isl false ((b_2).map I)), (5, I (x3))], mkS (rtL [] 1), 1⟩ := by
  refine fix_ind (P := fun (x3 : Int) (y : Bool ⊕ Unit) => (∀ r', y = .inl r' → ∀ st, spec_l1Same_Q a_1 b_2 r' st → Q st) → (∀ u : Unit, y = .inr u → Run spec_l1Same_E 0 Q K ⟨mkTm .dead 26 [], mkS (rtL [] 1), 1⟩) → Run spec_l1Same_E 0 Q (.code (cL (cL (cR (cL (cR (cR spec_l1Same_c)))))) :: .lp (cL (cL (cR (cL (cR (cR spec_l1Same_c)))))) :: .blk 0 :: K) ⟨mkTm .dead 26 [(0, .isl false ((a_1).map I)), (1, .isl false ((b_2).map I)), (5, I (x3))], mkS (rtL [] 1), 1⟩) (spec_l1Same_la_fin a_1 b_2) ?_ h
  clear h y x3
  intro self ih x3 y h hr hn
  unfold spec_l1Same_la_F at h
  refine s_seq rfl ?_
  refine s_seq rfl ?_
  refine s_reg rfl ?_
  refine o 17 (I (x3)) rfl rfl (e_move rfl) ?_
  refine o 33 (.isl false ((a_1).map I)) rfl rfl (e_move rfl) ?_
  refine o 49 (I ((len a_1))) rfl rfl (e_len rfl rfl rfl (l_isl rfl)) ?_
  refine o 65 (B ((decide (x3 < (len a_1))))) rfl rfl (e_bin rfl rfl rfl) ?_
  refine s_ops ?_
  refine s_cond rfl rfl (fun hb => ?_) (fun hb => ?_)
  · replace h := cT hb h
    refine s_skip rfl ?_
    refine s_seq rfl ?_
    refine s_block rfl ?_
    refine s_seq rfl ?_
    refine s_draw [0, 0, 3, 7, 0, 0, 48, 112, 255] rfl (by decide +kernel) ?_
    refine dp [] [] (.isl false ((a_1).map I)) rfl (e_move rfl) rfl (rfl) (by decide) ?_
    refine dp [] [] (I (x3)) rfl (e_move rfl) rfl (rfl) (by decide) ?_
    obtain ⟨e4, he4, h⟩ := bS h
    refine dp [] [] (.iptr (I (e4)) 0) rfl (e_indexAddr rfl rfl rfl (ix_islE rfl rfl rfl rfl he4)) rfl (rfl) (by decide) ?_
    refine dp [] [] (I (e4)) rfl (e_ld rfl rfl) rfl (rfl) (by decide) ?_
    refine dp [] [] (.isl false ((b_2).map I)) rfl (e_move rfl) rfl (rfl) (by decide) ?_
    refine dp [] [] (I (x3)) rfl (e_move rfl) rfl (rfl) (by decide) ?_
    obtain ⟨e5, he5, h⟩ := bS h
    refine dp [] [] (.iptr (I (e5)) 0) rfl (e_indexAddr rfl rfl rfl (ix_islE rfl rfl rfl rfl he5)) rfl (rfl) (by decide) ?_
    refine dp [] [] (I (e5)) rfl (e_ld rfl rfl) rfl (rfl) (by decide) ?_
    refine dp [] [] (B ((e4 != e5))) rfl (e_bin rfl rfl rfl) rfl (rfl) (by decide) ?_
    refine de 209 rfl rfl ?_
    refine s_cond rfl rfl (fun hb => ?_) (fun hb => ?_)
    · replace h := cT hb h
      refine s_seq rfl ?_
      refine s_reg rfl ?_
      refine o 225 (B (false)) rfl rfl (e_assign rfl) ?_
      refine s_ops ?_
      exact s_ret rfl (hr _ (Option.some.inj h).symm _ (fin (vs := [B (false)]) rfl (absE (absorb_plain rfl) (absEN)) rfl rfl))
    · replace h := cF hb h
      refine s_skip rfl ?_
      refine s_blk ?_
      refine s_reg rfl ?_
      refine o 225 (I (x3)) rfl rfl (e_move rfl) ?_
      refine o 241 (I ((w64 (x3 + 1)))) rfl rfl (e_bin rfl rfl rfl) ?_
      refine o 257 (I ((w64 (x3 + 1)))) rfl rfl (e_assign rfl) ?_
      refine s_ops ?_
      refine s_lp ?_
      refine run_forget [0, 1, 5] [] [] rfl rfl rfl rfl ?_
      exact ih _ _ h hr hn
  · replace h := cF hb h
    refine s_exit rfl rfl ?_
    refine run_forget [] [] [] rfl rfl rfl hK ?_
    exact hn _ (Option.some.inj h).symm
theorem spec_l1Same_run (a_1 : List Int) (b_2 : List Int) (r : Bool) (h : spec_l1Same a_1 b_2 = some r) : Run spec_l1Same_E 0 (spec_l1Same_Q a_1 b_2 r) [.code spec_l1Same_c] (enter Try.f33 [.isl false ((a_1).map I), .isl false ((b_2).map I)]).2 := by
  refine run_at (enter_eq (ys := [.isl false ((a_1).map I), .isl false ((b_2).map I)]) (R := []) (n := 26) (l := [(0, .isl false ((a_1).map I)), (1, .isl false ((b_2).map I))]) (nx := 1) rfl rfl rfl) ?_
  unfold spec_l1Same at h
  refine s_seq rfl ?_
  refine s_reg rfl ?_
  refine o 17 (B (false)) rfl rfl (e_assign rfl) ?_
  refine s_ops ?_
  refine s_seq rfl ?_
  refine s_seq rfl ?_
  refine s_reg rfl ?_
  refine o 33 (.isl false ((a_1).map I)) rfl rfl (e_move rfl) ?_
  refine o 49 (I ((len a_1))) rfl rfl (e_len rfl rfl rfl (l_isl rfl)) ?_
  refine o 65 (.isl false ((b_2).map I)) rfl rfl (e_move rfl) ?_
  refine o 81 (I ((len b_2))) rfl rfl (e_len rfl rfl rfl (l_isl rfl)) ?_
  refine o 97 (B (((len a_1) != (len b_2)))) rfl rfl (e_bin rfl rfl rfl) ?_
  refine s_ops ?_
  refine s_cond rfl rfl (fun hb => ?_) (fun hb => ?_)
  · replace h := cT hb h
    refine s_seq rfl ?_
    refine s_reg rfl ?_
    refine o 113 (B (false)) rfl rfl (e_assign rfl) ?_
    refine s_ops ?_
    obtain rfl := Option.some.inj h
    exact s_ret rfl (fin (vs := [B (false)]) rfl (absE (absorb_plain rfl) (absEN)) rfl rfl)
  · replace h := cF hb h
    refine s_skip rfl ?_
    refine s_seq rfl ?_
    refine s_seq rfl ?_
    refine s_reg rfl ?_
    refine o 113 (I (0)) rfl rfl (e_assign rfl) ?_
    refine s_ops ?_
    refine s_block rfl ?_
    obtain ⟨y6, hy6, hy61, hy62⟩ := bJ h
    refine s_loop rfl ?_
    refine run_forget [0, 1, 5] [] [] rfl rfl rfl rfl ?_
    refine spec_l1Same_la_run a_1 b_2 rfl hy6 (fun r' e st hq => by rw [hy61 r' e] at hq; exact hq) (fun u6 hu => ?_)
    replace h := hy62 u6 hu
    refine s_seq rfl ?_
    refine s_reg rfl ?_
    refine o 17 (B (true)) rfl rfl (e_assign rfl) ?_
    refine s_ops ?_
    obtain rfl := Option.some.inj h
    exact s_ret rfl (fin (vs := [B (true)]) rfl (absE (absorb_plain rfl) (absEN)) rfl rfl)
noncomputable def spec_l1Same_ent : Ent := ⟨[false, false], entF2 (decS I) (decS I) fun a_1 b_2 => (spec_l1Same a_1 b_2).map fun r => (B (r), [])⟩
theorem spec_l1Same_F {a_1 : List Int} {b_2 : List Int} {r : Bool} (h : spec_l1Same a_1 b_2 = some r) : spec_l1Same_ent.F [.isl false ((a_1).map I), .isl false ((b_2).map I)] = some (B (r), []) := by
  have e : spec_l1Same_ent.F [.isl false ((a_1).map I), .isl false ((b_2).map I)] = (spec_l1Same a_1 b_2).map fun r => (B (r), []) := by
    simp only [spec_l1Same_ent, entF2, decS, dec_ok (isl_inj I_inj), dec_ok (isl_inj I_inj), Option.bind_some]
  refine Eq.trans ?_ ((congrArg (Option.map fun r => ((B (r) : V), ([] : List V))) h))
  exact e
theorem spec_l1Same_good {G : Ground} : Good Try.prog G 33 spec_l1Same_ent := by
  refine good_of_run (E := spec_l1Same_E) (fnOf_good (by simp)) agree_mk (Checked.mixed Try.checked) Try.func33 (c := spec_l1Same_c) (n := 2) ⟨rfl, rfl, by decide⟩ ?_
  intro vs r os h
  obtain ⟨v0, v1, a_1, b_2, rfl, q0, q1, h9⟩ := entI2 h
  obtain rfl := dec_of q0
  obtain rfl := dec_of q1
  obtain ⟨r1, hr1, he⟩ := Option.map_eq_some_iff.1 h9
  cases he
  exact ⟨rfl, spec_l1Same_run a_1 b_2 r1 hr1⟩
noncomputable def spec_l9Same_c : Code := bodyOf Try.f21
noncomputable def spec_l9Same_E : Env := mkE Try.prog [(33, spec_l1Same_ent)] [53]
def spec_l9Same_Q (a_1 : State) (b_2 : State) (r : Bool) (st : St) : Prop := finish spec_l9Same_E Try.f21 [false, false] (enter Try.f21 [.agg [I (a_1.Day), .isl false ((a_1.Facts).map str), .isl false ((a_1.Duties).map enc_Duty), .isl false ((a_1.Balances).map I), B (a_1.Over)], .agg [I (b_2.Day), .isl false ((b_2.Facts).map str), .isl false ((b_2.Duties).map enc_Duty), .isl false ((b_2.Balances).map I), B (b_2.Over)]]).1 st = some (B (r), [])
theorem spec_l9Same_la_run (a_1 : State) (b_2 : State)  {Q : St → Prop} {K : List It} (hK : noD K = true) {x4 : Int} {y : Bool ⊕ Unit} (h : spec_l9Same_la a_1 b_2 x4 = some y) : (∀ r', y = .inl r' → ∀ st, spec_l9Same_Q a_1 b_2 r' st → Q st) → (∀ u : Unit, y = .inr u → Run spec_l9Same_E 0 Q K ⟨mkTm .dead 81 [(2, .hp 1 0 [] 5 0 0), (3, .hp 2 0 [] 5 0 0)], mkS (rtL [⟨0, 5, [.agg [I (a_1.Day), .isl false ((a_1.Facts).map str), .isl false ((a_1.Duties).map enc_Duty), .isl false ((a_1.Balances).map I), B (a_1.Over)]]⟩, ⟨0, 5, [.agg [I (b_2.Day), .isl false ((b_2.Facts).map str), .isl false ((b_2.Duties).map enc_Duty), .isl false ((b_2.Balances).map I), B (b_2.Over)]]⟩] 1), 3⟩) → Run spec_l9Same_E 0 Q (.code (cL (cL (cR (cL (cR (cR spec_l9Same_c)))))) :: .lp (cL (cL (cR (cL (cR (cR spec_l9Same_c)))))) :: .blk 0 :: K) ⟨mkTm .dead 81 [(2, .hp 1 0 [] 5 0 0), (3, .hp 2 0 [] 5 0 0), (5, I (x4))], mkS (rtL [⟨0, 5, [.agg [I (a_1.Day), .isl false ((a_1.Facts).map str), .isl false ((a_1.Duties).map enc_Duty), .isl false ((a_1.Balances).map I), B (a_1.Over)]]⟩, ⟨0, 5, [.agg [I (b_2.Day), .isl false ((b_2.Facts).map str), .isl false ((b_2.Duties).map enc_Duty), .isl false ((b_2.Balances).map I), B (b_2.Over)]]⟩] 1), 3⟩ := by
  refine fix_ind (P := fun (x4 : Int) (y : Bool ⊕ Unit) => (∀ r', y = .inl r' → ∀ st, spec_l9Same_Q a_1 b_2 r' st → Q st) → (∀ u : Unit, y = .inr u → Run spec_l9Same_E 0 Q K ⟨mkTm .dead 81 [(2, .hp 1 0 [] 5 0 0), (3, .hp 2 0 [] 5 0 0)], mkS (rtL [⟨0, 5, [.agg [I (a_1.Day), .isl false ((a_1.Facts).map str), .isl false ((a_1.Duties).map enc_Duty), .isl false ((a_1.Balances).map I), B (a_1.Over)]]⟩, ⟨0, 5, [.agg [I (b_2.Day), .isl false ((b_2.Facts).map str), .isl false ((b_2.Duties).map enc_Duty), .isl false ((b_2.Balances).map I), B (b_2.Over)]]⟩] 1), 3⟩) → Run spec_l9Same_E 0 Q (.code (cL (cL (cR (cL (cR (cR spec_l9Same_c)))))) :: .lp (cL (cL (cR (cL (cR (cR spec_l9Same_c)))))) :: .blk 0 :: K) ⟨mkTm .dead 81 [(2, .hp 1 0 [] 5 0 0), (3, .hp 2 0 [] 5 0 0), (5, I (x4))], mkS (rtL [⟨0, 5, [.agg [I (a_1.Day), .isl false ((a_1.Facts).map str), .isl false ((a_1.Duties).map enc_Duty), .isl false ((a_1.Balances).map I), B (a_1.Over)]]⟩, ⟨0, 5, [.agg [I (b_2.Day), .isl false ((b_2.Facts).map str), .isl false ((b_2.Duties).map enc_Duty), .isl false ((b_2.Balances).map I), B (b_2.Over)]]⟩] 1), 3⟩) (spec_l9Same_la_fin a_1 b_2) ?_ h
  clear h y x4
  intro self ih x4 y h hr hn
  unfold spec_l9Same_la_F at h
  refine s_seq rfl ?_
  refine s_seq rfl ?_
  refine s_reg rfl ?_
  refine o 19 (I (x4)) rfl rfl (e_move rfl) ?_
  refine o 35 (.hp 1 0 [] 5 0 1) rfl rfl (e_fieldAddr rfl rfl rfl) ?_
  refine o 51 (.isl false ((a_1.Facts).map str)) rfl rfl (e_ld rfl rfl) ?_
  refine o 67 (I ((len a_1.Facts))) rfl rfl (e_len rfl rfl rfl (l_isl rfl)) ?_
  refine o 83 (B ((decide (x4 < (len a_1.Facts))))) rfl rfl (e_bin rfl rfl rfl) ?_
  refine s_ops ?_
  refine s_cond rfl rfl (fun hb => ?_) (fun hb => ?_)
  · replace h := cT hb h
    refine s_skip rfl ?_
    refine s_seq rfl ?_
    refine s_block rfl ?_
    refine s_seq rfl ?_
    refine s_draw [0, 1, 0, 7, 15, 0, 32, 0, 224, 480, 1023] rfl (by decide +kernel) ?_
    refine dp [1] [] (.hp 1 0 [] 5 0 1) rfl (e_fieldAddr rfl rfl rfl) rfl (rfl) (by decide) ?_
    refine dp [1] [] (.isl false ((a_1.Facts).map str)) rfl (e_ld rfl rfl) rfl (rfl) (by decide) ?_
    refine dp [] [] (I (x4)) rfl (e_move rfl) rfl (rfl) (by decide) ?_
    obtain ⟨e5, he5, h⟩ := bS h
    refine dp [] [] (.iptr (str (e5)) 0) rfl (e_indexAddr rfl rfl rfl (ix_islE rfl rfl rfl rfl he5)) rfl (rfl) (by decide) ?_
    refine dp [] [] (str (e5)) rfl (e_ld rfl rfl) rfl (rfl) (by decide) ?_
    refine dp [2] [] (.hp 2 0 [] 5 0 1) rfl (e_fieldAddr rfl rfl rfl) rfl (rfl) (by decide) ?_
    refine dp [2] [] (.isl false ((b_2.Facts).map str)) rfl (e_ld rfl rfl) rfl (rfl) (by decide) ?_
    refine dp [] [] (I (x4)) rfl (e_move rfl) rfl (rfl) (by decide) ?_
    obtain ⟨e6, he6, h⟩ := bS h
    refine dp [] [] (.iptr (str (e6)) 0) rfl (e_indexAddr rfl rfl rfl (ix_islE rfl rfl rfl rfl he6)) rfl (rfl) (by decide) ?_
    refine dp [] [] (str (e6)) rfl (e_ld rfl rfl) rfl (rfl) (by decide) ?_
    refine dp [] [] (B ((!(e5 == e6)))) rfl (e_bin rfl rfl b_strne) rfl (rfl) (by decide) ?_
    refine de 259 rfl rfl ?_
    refine s_cond rfl rfl (fun hb => ?_) (fun hb => ?_)
    · replace h := cT hb h
      refine s_seq rfl ?_
      refine s_reg rfl ?_
      refine o 275 (B (false)) rfl rfl (e_assign rfl) ?_
      refine s_ops ?_
      exact s_ret rfl (hr _ (Option.some.inj h).symm _ (fin (vs := [B (false)]) rfl (absE (absorb_plain rfl) (absEN)) rfl rfl))
    · replace h := cF hb h
      refine s_skip rfl ?_
      refine s_blk ?_
      refine s_reg rfl ?_
      refine o 275 (I (x4)) rfl rfl (e_move rfl) ?_
      refine o 291 (I ((w64 (x4 + 1)))) rfl rfl (e_bin rfl rfl rfl) ?_
      refine o 307 (I ((w64 (x4 + 1)))) rfl rfl (e_assign rfl) ?_
      refine s_ops ?_
      refine s_lp ?_
      refine run_forget [2, 3, 5] [1, 2] [⟨0, 5, [.agg [I (a_1.Day), .isl false ((a_1.Facts).map str), .isl false ((a_1.Duties).map enc_Duty), .isl false ((a_1.Balances).map I), B (a_1.Over)]]⟩, ⟨0, 5, [.agg [I (b_2.Day), .isl false ((b_2.Facts).map str), .isl false ((b_2.Duties).map enc_Duty), .isl false ((b_2.Balances).map I), B (b_2.Over)]]⟩] rfl rfl rfl rfl ?_
      exact ih _ _ h hr hn
  · replace h := cF hb h
    refine s_exit rfl rfl ?_
    refine run_forget [2, 3] [1, 2] [⟨0, 5, [.agg [I (a_1.Day), .isl false ((a_1.Facts).map str), .isl false ((a_1.Duties).map enc_Duty), .isl false ((a_1.Balances).map I), B (a_1.Over)]]⟩, ⟨0, 5, [.agg [I (b_2.Day), .isl false ((b_2.Facts).map str), .isl false ((b_2.Duties).map enc_Duty), .isl false ((b_2.Balances).map I), B (b_2.Over)]]⟩] rfl rfl rfl hK ?_
    exact hn _ (Option.some.inj h).symm
theorem spec_l9Same_lb_run (a_1 : State) (b_2 : State)  {Q : St → Prop} {K : List It} (hK : noD K = true) {x8 : Int} {y : Bool ⊕ Unit} (h : spec_l9Same_lb a_1 b_2 x8 = some y) : (∀ r', y = .inl r' → ∀ st, spec_l9Same_Q a_1 b_2 r' st → Q st) → (∀ u : Unit, y = .inr u → Run spec_l9Same_E 0 Q K ⟨mkTm .dead 81 [], mkS (rtL [] 1), 1⟩) → Run spec_l9Same_E 0 Q (.code (cL (cL (cR (cL (cR (cR (cR spec_l9Same_c))))))) :: .lp (cL (cL (cR (cL (cR (cR (cR spec_l9Same_c))))))) :: .blk 2 :: K) ⟨mkTm .dead 81 [(2, .hp 1 0 [] 5 0 0), (3, .hp 2 0 [] 5 0 0), (6, I (x8))], mkS (rtL [⟨0, 5, [.agg [I (a_1.Day), .isl false ((a_1.Facts).map str), .isl false ((a_1.Duties).map enc_Duty), .isl false ((a_1.Balances).map I), B (a_1.Over)]]⟩, ⟨0, 5, [.agg [I (b_2.Day), .isl false ((b_2.Facts).map str), .isl false ((b_2.Duties).map enc_Duty), .isl false ((b_2.Balances).map I), B (b_2.Over)]]⟩] 1), 3⟩ := by
  refine fix_ind (P := fun (x8 : Int) (y : Bool ⊕ Unit) => (∀ r', y = .inl r' → ∀ st, spec_l9Same_Q a_1 b_2 r' st → Q st) → (∀ u : Unit, y = .inr u → Run spec_l9Same_E 0 Q K ⟨mkTm .dead 81 [], mkS (rtL [] 1), 1⟩) → Run spec_l9Same_E 0 Q (.code (cL (cL (cR (cL (cR (cR (cR spec_l9Same_c))))))) :: .lp (cL (cL (cR (cL (cR (cR (cR spec_l9Same_c))))))) :: .blk 2 :: K) ⟨mkTm .dead 81 [(2, .hp 1 0 [] 5 0 0), (3, .hp 2 0 [] 5 0 0), (6, I (x8))], mkS (rtL [⟨0, 5, [.agg [I (a_1.Day), .isl false ((a_1.Facts).map str), .isl false ((a_1.Duties).map enc_Duty), .isl false ((a_1.Balances).map I), B (a_1.Over)]]⟩, ⟨0, 5, [.agg [I (b_2.Day), .isl false ((b_2.Facts).map str), .isl false ((b_2.Duties).map enc_Duty), .isl false ((b_2.Balances).map I), B (b_2.Over)]]⟩] 1), 3⟩) (spec_l9Same_lb_fin a_1 b_2) ?_ h
  clear h y x8
  intro self ih x8 y h hr hn
  unfold spec_l9Same_lb_F at h
  refine s_seq rfl ?_
  refine s_seq rfl ?_
  refine s_reg rfl ?_
  refine o 19 (I (x8)) rfl rfl (e_move rfl) ?_
  refine o 35 (.hp 1 0 [] 5 0 2) rfl rfl (e_fieldAddr rfl rfl rfl) ?_
  refine o 51 (.isl false ((a_1.Duties).map enc_Duty)) rfl rfl (e_ld rfl rfl) ?_
  refine o 67 (I ((len a_1.Duties))) rfl rfl (e_len rfl rfl rfl (l_isl rfl)) ?_
  refine o 83 (B ((decide (x8 < (len a_1.Duties))))) rfl rfl (e_bin rfl rfl rfl) ?_
  refine s_ops ?_
  refine s_cond rfl rfl (fun hb => ?_) (fun hb => ?_)
  · replace h := cT hb h
    refine s_skip rfl ?_
    refine s_seq rfl ?_
    refine s_block rfl ?_
    refine s_seq rfl ?_
    refine s_draw [0, 1, 0, 7, 15, 0, 32, 0, 224, 480, 1023] rfl (by decide +kernel) ?_
    refine dp [1] [] (.hp 1 0 [] 5 0 2) rfl (e_fieldAddr rfl rfl rfl) rfl (rfl) (by decide) ?_
    refine dp [1] [] (.isl false ((a_1.Duties).map enc_Duty)) rfl (e_ld rfl rfl) rfl (rfl) (by decide) ?_
    refine dp [] [] (I (x8)) rfl (e_move rfl) rfl (rfl) (by decide) ?_
    obtain ⟨e9, he9, h⟩ := bS h
    refine dp [] [] (.iptr (.agg [I (e9.Clause), I (e9.Since), I (e9.Due), I (e9.Status)]) 0) rfl (e_indexAddr rfl rfl rfl (ix_islE rfl rfl rfl rfl he9)) rfl (rfl) (by decide) ?_
    refine dp [] [] (.agg [I (e9.Clause), I (e9.Since), I (e9.Due), I (e9.Status)]) rfl (e_ld rfl rfl) rfl (rfl) (by decide) ?_
    refine dp [2] [] (.hp 2 0 [] 5 0 2) rfl (e_fieldAddr rfl rfl rfl) rfl (rfl) (by decide) ?_
    refine dp [2] [] (.isl false ((b_2.Duties).map enc_Duty)) rfl (e_ld rfl rfl) rfl (rfl) (by decide) ?_
    refine dp [] [] (I (x8)) rfl (e_move rfl) rfl (rfl) (by decide) ?_
    obtain ⟨e10, he10, h⟩ := bS h
    refine dp [] [] (.iptr (.agg [I (e10.Clause), I (e10.Since), I (e10.Due), I (e10.Status)]) 0) rfl (e_indexAddr rfl rfl rfl (ix_islE rfl rfl rfl rfl he10)) rfl (rfl) (by decide) ?_
    refine dp [] [] (.agg [I (e10.Clause), I (e10.Since), I (e10.Due), I (e10.Status)]) rfl (e_ld rfl rfl) rfl (rfl) (by decide) ?_
    refine dp [] [] (B ((!(e9.Clause == e10.Clause && (e9.Since == e10.Since && (e9.Due == e10.Due && (e9.Status == e10.Status && true))))))) rfl (e_bin rfl rfl (b_agne (b := (e9.Clause == e10.Clause && (e9.Since == e10.Since && (e9.Due == e10.Due && (e9.Status == e10.Status && true))))) rfl rfl rfl rfl)) rfl (rfl) (by decide) ?_
    refine de 259 rfl rfl ?_
    refine s_cond rfl rfl (fun hb => ?_) (fun hb => ?_)
    · replace h := cT hb h
      refine s_seq rfl ?_
      refine s_reg rfl ?_
      refine o 275 (B (false)) rfl rfl (e_assign rfl) ?_
      refine s_ops ?_
      exact s_ret rfl (hr _ (Option.some.inj h).symm _ (fin (vs := [B (false)]) rfl (absE (absorb_plain rfl) (absEN)) rfl rfl))
    · replace h := cF hb h
      refine s_skip rfl ?_
      refine s_blk ?_
      refine s_reg rfl ?_
      refine o 275 (I (x8)) rfl rfl (e_move rfl) ?_
      refine o 291 (I ((w64 (x8 + 1)))) rfl rfl (e_bin rfl rfl rfl) ?_
      refine o 307 (I ((w64 (x8 + 1)))) rfl rfl (e_assign rfl) ?_
      refine s_ops ?_
      refine s_lp ?_
      refine run_forget [2, 3, 6] [1, 2] [⟨0, 5, [.agg [I (a_1.Day), .isl false ((a_1.Facts).map str), .isl false ((a_1.Duties).map enc_Duty), .isl false ((a_1.Balances).map I), B (a_1.Over)]]⟩, ⟨0, 5, [.agg [I (b_2.Day), .isl false ((b_2.Facts).map str), .isl false ((b_2.Duties).map enc_Duty), .isl false ((b_2.Balances).map I), B (b_2.Over)]]⟩] rfl rfl rfl rfl ?_
      exact ih _ _ h hr hn
  · replace h := cF hb h
    refine s_exit rfl rfl ?_
    refine run_forget [] [] [] rfl rfl rfl hK ?_
    exact hn _ (Option.some.inj h).symm
theorem spec_l9Same_run (a_1 : State) (b_2 : State) (r : Bool) (h : spec_l9Same a_1 b_2 = some r) : Run spec_l9Same_E 0 (spec_l9Same_Q a_1 b_2 r) [.code spec_l9Same_c] (enter Try.f21 [.agg [I (a_1.Day), .isl false ((a_1.Facts).map str), .isl false ((a_1.Duties).map enc_Duty), .isl false ((a_1.Balances).map I), B (a_1.Over)], .agg [I (b_2.Day), .isl false ((b_2.Facts).map str), .isl false ((b_2.Duties).map enc_Duty), .isl false ((b_2.Balances).map I), B (b_2.Over)]]).2 := by
  refine run_at (enter_eq (ys := [.agg [I (a_1.Day), .isl false ((a_1.Facts).map str), .isl false ((a_1.Duties).map enc_Duty), .isl false ((a_1.Balances).map I), B (a_1.Over)], .agg [I (b_2.Day), .isl false ((b_2.Facts).map str), .isl false ((b_2.Duties).map enc_Duty), .isl false ((b_2.Balances).map I), B (b_2.Over)]]) (R := []) (n := 81) (l := [(0, .agg [I (a_1.Day), .isl false ((a_1.Facts).map str), .isl false ((a_1.Duties).map enc_Duty), .isl false ((a_1.Balances).map I), B (a_1.Over)]), (1, .agg [I (b_2.Day), .isl false ((b_2.Facts).map str), .isl false ((b_2.Duties).map enc_Duty), .isl false ((b_2.Balances).map I), B (b_2.Over)])]) (nx := 1) rfl rfl rfl) ?_
  unfold spec_l9Same at h
  refine s_seq rfl ?_
  refine s_reg rfl ?_
  refine o 17 (.hp 1 0 [] 5 0 0) rfl rfl (e_boxP rfl rfl rfl) ?_
  refine o 33 (.hp 17 0 [] 5 0 0) rfl rfl (e_boxP rfl rfl rfl) ?_
  refine o 49 (B (false)) rfl rfl (e_assign rfl) ?_
  refine s_ops ?_
  refine s_seq rfl ?_
  refine s_seq rfl ?_
  refine s_reg rfl ?_
  refine o 65 (.hp 1 0 [] 5 0 0) rfl rfl (e_fieldAddr rfl rfl rfl) ?_
  refine o 81 (I (a_1.Day)) rfl rfl (e_ld rfl rfl) ?_
  refine o 97 (.hp 17 0 [] 5 0 0) rfl rfl (e_fieldAddr rfl rfl rfl) ?_
  refine o 113 (I (b_2.Day)) rfl rfl (e_ld rfl rfl) ?_
  refine o 129 (B ((a_1.Day != b_2.Day))) rfl rfl (e_bin rfl rfl rfl) ?_
  refine o 145 (B ((a_1.Day != b_2.Day))) rfl rfl (e_move rfl) ?_
  obtain ⟨y3, hy3, hy31, hy32⟩ := bJ h
  have j3 : ∀ u3, y3 = .inr u3 → Run spec_l9Same_E 0 (spec_l9Same_Q a_1 b_2 r) (.code (cR (cL (cR spec_l9Same_c))) :: .code (cR (cR spec_l9Same_c)) :: []) ⟨mkTm .dead 81 [(2, .hp 1 0 [] 5 0 0), (3, .hp 2 0 [] 5 0 0), (44, B (u3))], mkS (rtL [⟨0, 5, [.agg [I (a_1.Day), .isl false ((a_1.Facts).map str), .isl false ((a_1.Duties).map enc_Duty), .isl false ((a_1.Balances).map I), B (a_1.Over)]]⟩, ⟨0, 5, [.agg [I (b_2.Day), .isl false ((b_2.Facts).map str), .isl false ((b_2.Duties).map enc_Duty), .isl false ((b_2.Balances).map I), B (b_2.Over)]]⟩] 1), 3⟩ := by
    intro u3 hu
    replace h := hy32 u3 hu
    refine s_cond rfl rfl (fun hb => ?_) (fun hb => ?_)
    · replace h := cT hb h
      refine s_seq rfl ?_
      refine s_reg rfl ?_
      refine o 19 (B (false)) rfl rfl (e_assign rfl) ?_
      refine s_ops ?_
      obtain rfl := Option.some.inj h
      exact s_ret rfl (fin (vs := [B (false)]) rfl (absE (absorb_plain rfl) (absEN)) rfl rfl)
    · replace h := cF hb h
      refine s_skip rfl ?_
      refine s_seq rfl ?_
      refine s_seq rfl ?_
      refine s_reg rfl ?_
      refine o 19 (I (0)) rfl rfl (e_assign rfl) ?_
      refine s_ops ?_
      refine s_block rfl ?_
      obtain ⟨y7, hy7, hy71, hy72⟩ := bJ h
      refine s_loop rfl ?_
      refine run_forget [2, 3, 5] [1, 2] [⟨0, 5, [.agg [I (a_1.Day), .isl false ((a_1.Facts).map str), .isl false ((a_1.Duties).map enc_Duty), .isl false ((a_1.Balances).map I), B (a_1.Over)]]⟩, ⟨0, 5, [.agg [I (b_2.Day), .isl false ((b_2.Facts).map str), .isl false ((b_2.Duties).map enc_Duty), .isl false ((b_2.Balances).map I), B (b_2.Over)]]⟩] rfl rfl rfl rfl ?_
      refine spec_l9Same_la_run a_1 b_2 rfl hy7 (fun r' e st hq => by rw [hy71 r' e] at hq; exact hq) (fun u7 hu => ?_)
      replace h := hy72 u7 hu
      refine s_seq rfl ?_
      refine s_seq rfl ?_
      refine s_reg rfl ?_
      refine o 19 (I (0)) rfl rfl (e_assign rfl) ?_
      refine s_ops ?_
      refine s_block rfl ?_
      obtain ⟨y11, hy11, hy111, hy112⟩ := bJ h
      refine s_loop rfl ?_
      refine run_forget [2, 3, 6] [1, 2] [⟨0, 5, [.agg [I (a_1.Day), .isl false ((a_1.Facts).map str), .isl false ((a_1.Duties).map enc_Duty), .isl false ((a_1.Balances).map I), B (a_1.Over)]]⟩, ⟨0, 5, [.agg [I (b_2.Day), .isl false ((b_2.Facts).map str), .isl false ((b_2.Duties).map enc_Duty), .isl false ((b_2.Balances).map I), B (b_2.Over)]]⟩] rfl rfl rfl rfl ?_
      refine spec_l9Same_lb_run a_1 b_2 rfl hy11 (fun r' e st hq => by rw [hy111 r' e] at hq; exact hq) (fun u11 hu => ?_)
      replace h := hy112 u11 hu
      refine s_seq rfl ?_
      refine s_reg rfl ?_
      refine o 17 (B (true)) rfl rfl (e_assign rfl) ?_
      refine s_ops ?_
      obtain rfl := Option.some.inj h
      exact s_ret rfl (fin (vs := [B (true)]) rfl (absE (absorb_plain rfl) (absEN)) rfl rfl)
  have r3 : ∀ r', y3 = .inl r' → ∀ st, spec_l9Same_Q a_1 b_2 r' st → (spec_l9Same_Q a_1 b_2 r) st := fun r' e st hq => by rw [hy31 r' e] at hq; exact hq
  replace h := hy3
  refine r_split (b := (a_1.Day != b_2.Day)) 12 rfl (fun hb => ?_) (fun hb => ?_)
  · replace h := cT hb h
    refine os 161 rfl rfl rfl rfl ?_
    refine os 177 rfl rfl rfl rfl ?_
    refine os 193 rfl rfl rfl rfl ?_
    refine os 209 rfl rfl rfl rfl ?_
    refine os 225 rfl rfl rfl rfl ?_
    refine o 241 (B (true)) rfl rfl (e_pickT rfl rfl) ?_
    refine o 257 (B (true)) rfl rfl (e_move rfl) ?_
    refine os 273 rfl rfl rfl rfl ?_
    refine os 289 rfl rfl rfl rfl ?_
    refine os 305 rfl rfl rfl rfl ?_
    refine os 321 rfl rfl rfl rfl ?_
    refine os 337 rfl rfl rfl rfl ?_
    refine os 353 rfl rfl rfl rfl ?_
    refine os 369 rfl rfl rfl rfl ?_
    refine o 385 (B (true)) rfl rfl (e_pickT rfl rfl) ?_
    refine o 401 (B (true)) rfl rfl (e_move rfl) ?_
    refine os 417 rfl rfl rfl rfl ?_
    refine os 433 rfl rfl rfl rfl ?_
    refine os 449 rfl rfl rfl rfl ?_
    refine os 465 rfl rfl rfl rfl ?_
    refine os 481 rfl rfl rfl rfl ?_
    refine os 497 rfl rfl rfl rfl ?_
    refine os 513 rfl rfl rfl rfl ?_
    refine o 529 (B (true)) rfl rfl (e_pickT rfl rfl) ?_
    refine o 545 (B (true)) rfl rfl (e_move rfl) ?_
    refine os 561 rfl rfl rfl rfl ?_
    refine os 577 rfl rfl rfl rfl ?_
    refine os 593 rfl rfl rfl rfl ?_
    refine os 609 rfl rfl rfl rfl ?_
    refine os 625 rfl rfl rfl rfl ?_
    refine os 641 rfl rfl rfl rfl ?_
    refine o 657 (B (true)) rfl rfl (e_pickT rfl rfl) ?_
    refine s_ops ?_
    refine run_forget [2, 3, 44] [1, 17] [⟨0, 5, [.agg [I (a_1.Day), .isl false ((a_1.Facts).map str), .isl false ((a_1.Duties).map enc_Duty), .isl false ((a_1.Balances).map I), B (a_1.Over)]]⟩, ⟨0, 5, [.agg [I (b_2.Day), .isl false ((b_2.Facts).map str), .isl false ((b_2.Duties).map enc_Duty), .isl false ((b_2.Balances).map I), B (b_2.Over)]]⟩] rfl rfl rfl rfl ?_
    exact j3 _ (Option.some.inj h).symm
  · replace h := cF hb h
    refine og 161 (.hp 1 0 [] 5 0 4) rfl rfl rfl rfl (e_fieldAddr rfl rfl rfl) ?_
    refine og 177 (B (a_1.Over)) rfl rfl rfl rfl (e_ld rfl rfl) ?_
    refine og 193 (.hp 17 0 [] 5 0 4) rfl rfl rfl rfl (e_fieldAddr rfl rfl rfl) ?_
    refine og 209 (B (b_2.Over)) rfl rfl rfl rfl (e_ld rfl rfl) ?_
    refine og 225 (B ((!(a_1.Over == b_2.Over)))) rfl rfl rfl rfl (e_bin rfl rfl rfl) ?_
    refine o 241 (B ((!(a_1.Over == b_2.Over)))) rfl rfl (e_pickF rfl rfl) ?_
    refine o 257 (B ((!(a_1.Over == b_2.Over)))) rfl rfl (e_move rfl) ?_
    obtain ⟨y12, hy12, hy121, hy122⟩ := bL h
    have j12 : ∀ u12, y12 = .inr u12 → Run spec_l9Same_E 0 (spec_l9Same_Q a_1 b_2 r) (.code (cR (cL (cR spec_l9Same_c))) :: .code (cR (cR spec_l9Same_c)) :: []) ⟨mkTm .dead 81 [(2, .hp 1 0 [] 5 0 0), (3, .hp 2 0 [] 5 0 0), (44, B (u12))], mkS (rtL [⟨0, 5, [.agg [I (a_1.Day), .isl false ((a_1.Facts).map str), .isl false ((a_1.Duties).map enc_Duty), .isl false ((a_1.Balances).map I), B (a_1.Over)]]⟩, ⟨0, 5, [.agg [I (b_2.Day), .isl false ((b_2.Facts).map str), .isl false ((b_2.Duties).map enc_Duty), .isl false ((b_2.Balances).map I), B (b_2.Over)]]⟩] 1), 3⟩ := by
      intro u12 hu
      replace h := hy122 u12 hu
      refine run_forget [2, 3, 44] [1, 2] [⟨0, 5, [.agg [I (a_1.Day), .isl false ((a_1.Facts).map str), .isl false ((a_1.Duties).map enc_Duty), .isl false ((a_1.Balances).map I), B (a_1.Over)]]⟩, ⟨0, 5, [.agg [I (b_2.Day), .isl false ((b_2.Facts).map str), .isl false ((b_2.Duties).map enc_Duty), .isl false ((b_2.Balances).map I), B (b_2.Over)]]⟩] rfl rfl rfl rfl ?_
      exact j3 _ (Option.some.inj h).symm
    have r12 : ∀ r', y12 = .inl r' → ∀ st, spec_l9Same_Q a_1 b_2 r' st → (spec_l9Same_Q a_1 b_2 r) st := fun r' e st hq => r3 r' (hy121 r' e) st hq
    replace h := hy12
    refine r_split (b := (!(a_1.Over == b_2.Over))) 19 rfl (fun hb => ?_) (fun hb => ?_)
    · replace h := cT hb h
      refine os 273 rfl rfl rfl rfl ?_
      refine os 289 rfl rfl rfl rfl ?_
      refine os 305 rfl rfl rfl rfl ?_
      refine os 321 rfl rfl rfl rfl ?_
      refine os 337 rfl rfl rfl rfl ?_
      refine os 353 rfl rfl rfl rfl ?_
      refine os 369 rfl rfl rfl rfl ?_
      refine o 385 (B (true)) rfl rfl (e_pickT rfl rfl) ?_
      refine o 401 (B (true)) rfl rfl (e_move rfl) ?_
      refine os 417 rfl rfl rfl rfl ?_
      refine os 433 rfl rfl rfl rfl ?_
      refine os 449 rfl rfl rfl rfl ?_
      refine os 465 rfl rfl rfl rfl ?_
      refine os 481 rfl rfl rfl rfl ?_
      refine os 497 rfl rfl rfl rfl ?_
      refine os 513 rfl rfl rfl rfl ?_
      refine o 529 (B (true)) rfl rfl (e_pickT rfl rfl) ?_
      refine o 545 (B (true)) rfl rfl (e_move rfl) ?_
      refine os 561 rfl rfl rfl rfl ?_
      refine os 577 rfl rfl rfl rfl ?_
      refine os 593 rfl rfl rfl rfl ?_
      refine os 609 rfl rfl rfl rfl ?_
      refine os 625 rfl rfl rfl rfl ?_
      refine os 641 rfl rfl rfl rfl ?_
      refine o 657 (B (true)) rfl rfl (e_pickT rfl rfl) ?_
      refine s_ops ?_
      refine run_forget [2, 3, 44] [1, 17] [⟨0, 5, [.agg [I (a_1.Day), .isl false ((a_1.Facts).map str), .isl false ((a_1.Duties).map enc_Duty), .isl false ((a_1.Balances).map I), B (a_1.Over)]]⟩, ⟨0, 5, [.agg [I (b_2.Day), .isl false ((b_2.Facts).map str), .isl false ((b_2.Duties).map enc_Duty), .isl false ((b_2.Balances).map I), B (b_2.Over)]]⟩] rfl rfl rfl rfl ?_
      exact j12 _ (Option.some.inj h).symm
    · replace h := cF hb h
      refine og 273 (.hp 1 0 [] 5 0 1) rfl rfl rfl rfl (e_fieldAddr rfl rfl rfl) ?_
      refine og 289 (.isl false ((a_1.Facts).map str)) rfl rfl rfl rfl (e_ld rfl rfl) ?_
      refine og 305 (I ((len a_1.Facts))) rfl rfl rfl rfl (e_len rfl rfl rfl (l_isl rfl)) ?_
      refine og 321 (.hp 17 0 [] 5 0 1) rfl rfl rfl rfl (e_fieldAddr rfl rfl rfl) ?_
      refine og 337 (.isl false ((b_2.Facts).map str)) rfl rfl rfl rfl (e_ld rfl rfl) ?_
      refine og 353 (I ((len b_2.Facts))) rfl rfl rfl rfl (e_len rfl rfl rfl (l_isl rfl)) ?_
      refine og 369 (B (((len a_1.Facts) != (len b_2.Facts)))) rfl rfl rfl rfl (e_bin rfl rfl rfl) ?_
      refine o 385 (B (((len a_1.Facts) != (len b_2.Facts)))) rfl rfl (e_pickF rfl rfl) ?_
      refine o 401 (B (((len a_1.Facts) != (len b_2.Facts)))) rfl rfl (e_move rfl) ?_
      obtain ⟨y13, hy13, hy131, hy132⟩ := bL h
      have j13 : ∀ u13, y13 = .inr u13 → Run spec_l9Same_E 0 (spec_l9Same_Q a_1 b_2 r) (.code (cR (cL (cR spec_l9Same_c))) :: .code (cR (cR spec_l9Same_c)) :: []) ⟨mkTm .dead 81 [(2, .hp 1 0 [] 5 0 0), (3, .hp 2 0 [] 5 0 0), (44, B (u13))], mkS (rtL [⟨0, 5, [.agg [I (a_1.Day), .isl false ((a_1.Facts).map str), .isl false ((a_1.Duties).map enc_Duty), .isl false ((a_1.Balances).map I), B (a_1.Over)]]⟩, ⟨0, 5, [.agg [I (b_2.Day), .isl false ((b_2.Facts).map str), .isl false ((b_2.Duties).map enc_Duty), .isl false ((b_2.Balances).map I), B (b_2.Over)]]⟩] 1), 3⟩ := by
        intro u13 hu
        replace h := hy132 u13 hu
        refine run_forget [2, 3, 44] [1, 2] [⟨0, 5, [.agg [I (a_1.Day), .isl false ((a_1.Facts).map str), .isl false ((a_1.Duties).map enc_Duty), .isl false ((a_1.Balances).map I), B (a_1.Over)]]⟩, ⟨0, 5, [.agg [I (b_2.Day), .isl false ((b_2.Facts).map str), .isl false ((b_2.Duties).map enc_Duty), .isl false ((b_2.Balances).map I), B (b_2.Over)]]⟩] rfl rfl rfl rfl ?_
        exact j12 _ (Option.some.inj h).symm
      have r13 : ∀ r', y13 = .inl r' → ∀ st, spec_l9Same_Q a_1 b_2 r' st → (spec_l9Same_Q a_1 b_2 r) st := fun r' e st hq => r12 r' (hy131 r' e) st hq
      replace h := hy13
      refine r_split (b := ((len a_1.Facts) != (len b_2.Facts))) 28 rfl (fun hb => ?_) (fun hb => ?_)
      · replace h := cT hb h
        refine os 417 rfl rfl rfl rfl ?_
        refine os 433 rfl rfl rfl rfl ?_
        refine os 449 rfl rfl rfl rfl ?_
        refine os 465 rfl rfl rfl rfl ?_
        refine os 481 rfl rfl rfl rfl ?_
        refine os 497 rfl rfl rfl rfl ?_
        refine os 513 rfl rfl rfl rfl ?_
        refine o 529 (B (true)) rfl rfl (e_pickT rfl rfl) ?_
        refine o 545 (B (true)) rfl rfl (e_move rfl) ?_
        refine os 561 rfl rfl rfl rfl ?_
        refine os 577 rfl rfl rfl rfl ?_
        refine os 593 rfl rfl rfl rfl ?_
        refine os 609 rfl rfl rfl rfl ?_
        refine os 625 rfl rfl rfl rfl ?_
        refine os 641 rfl rfl rfl rfl ?_
        refine o 657 (B (true)) rfl rfl (e_pickT rfl rfl) ?_
        refine s_ops ?_
        refine run_forget [2, 3, 44] [1, 17] [⟨0, 5, [.agg [I (a_1.Day), .isl false ((a_1.Facts).map str), .isl false ((a_1.Duties).map enc_Duty), .isl false ((a_1.Balances).map I), B (a_1.Over)]]⟩, ⟨0, 5, [.agg [I (b_2.Day), .isl false ((b_2.Facts).map str), .isl false ((b_2.Duties).map enc_Duty), .isl false ((b_2.Balances).map I), B (b_2.Over)]]⟩] rfl rfl rfl rfl ?_
        exact j13 _ (Option.some.inj h).symm
      · replace h := cF hb h
        refine og 417 (.hp 1 0 [] 5 0 2) rfl rfl rfl rfl (e_fieldAddr rfl rfl rfl) ?_
        refine og 433 (.isl false ((a_1.Duties).map enc_Duty)) rfl rfl rfl rfl (e_ld rfl rfl) ?_
        refine og 449 (I ((len a_1.Duties))) rfl rfl rfl rfl (e_len rfl rfl rfl (l_isl rfl)) ?_
        refine og 465 (.hp 17 0 [] 5 0 2) rfl rfl rfl rfl (e_fieldAddr rfl rfl rfl) ?_
        refine og 481 (.isl false ((b_2.Duties).map enc_Duty)) rfl rfl rfl rfl (e_ld rfl rfl) ?_
        refine og 497 (I ((len b_2.Duties))) rfl rfl rfl rfl (e_len rfl rfl rfl (l_isl rfl)) ?_
        refine og 513 (B (((len a_1.Duties) != (len b_2.Duties)))) rfl rfl rfl rfl (e_bin rfl rfl rfl) ?_
        refine o 529 (B (((len a_1.Duties) != (len b_2.Duties)))) rfl rfl (e_pickF rfl rfl) ?_
        refine o 545 (B (((len a_1.Duties) != (len b_2.Duties)))) rfl rfl (e_move rfl) ?_
        obtain ⟨y14, hy14, hy141, hy142⟩ := bL h
        have j14 : ∀ u14, y14 = .inr u14 → Run spec_l9Same_E 0 (spec_l9Same_Q a_1 b_2 r) (.code (cR (cL (cR spec_l9Same_c))) :: .code (cR (cR spec_l9Same_c)) :: []) ⟨mkTm .dead 81 [(2, .hp 1 0 [] 5 0 0), (3, .hp 2 0 [] 5 0 0), (44, B (u14))], mkS (rtL [⟨0, 5, [.agg [I (a_1.Day), .isl false ((a_1.Facts).map str), .isl false ((a_1.Duties).map enc_Duty), .isl false ((a_1.Balances).map I), B (a_1.Over)]]⟩, ⟨0, 5, [.agg [I (b_2.Day), .isl false ((b_2.Facts).map str), .isl false ((b_2.Duties).map enc_Duty), .isl false ((b_2.Balances).map I), B (b_2.Over)]]⟩] 1), 3⟩ := by
          intro u14 hu
          replace h := hy142 u14 hu
          refine run_forget [2, 3, 44] [1, 2] [⟨0, 5, [.agg [I (a_1.Day), .isl false ((a_1.Facts).map str), .isl false ((a_1.Duties).map enc_Duty), .isl false ((a_1.Balances).map I), B (a_1.Over)]]⟩, ⟨0, 5, [.agg [I (b_2.Day), .isl false ((b_2.Facts).map str), .isl false ((b_2.Duties).map enc_Duty), .isl false ((b_2.Balances).map I), B (b_2.Over)]]⟩] rfl rfl rfl rfl ?_
          exact j13 _ (Option.some.inj h).symm
        have r14 : ∀ r', y14 = .inl r' → ∀ st, spec_l9Same_Q a_1 b_2 r' st → (spec_l9Same_Q a_1 b_2 r) st := fun r' e st hq => r13 r' (hy141 r' e) st hq
        replace h := hy14
        refine r_split (b := ((len a_1.Duties) != (len b_2.Duties))) 37 rfl (fun hb => ?_) (fun hb => ?_)
        · replace h := cT hb h
          refine os 561 rfl rfl rfl rfl ?_
          refine os 577 rfl rfl rfl rfl ?_
          refine os 593 rfl rfl rfl rfl ?_
          refine os 609 rfl rfl rfl rfl ?_
          refine os 625 rfl rfl rfl rfl ?_
          refine os 641 rfl rfl rfl rfl ?_
          refine o 657 (B (true)) rfl rfl (e_pickT rfl rfl) ?_
          refine s_ops ?_
          refine run_forget [2, 3, 44] [1, 17] [⟨0, 5, [.agg [I (a_1.Day), .isl false ((a_1.Facts).map str), .isl false ((a_1.Duties).map enc_Duty), .isl false ((a_1.Balances).map I), B (a_1.Over)]]⟩, ⟨0, 5, [.agg [I (b_2.Day), .isl false ((b_2.Facts).map str), .isl false ((b_2.Duties).map enc_Duty), .isl false ((b_2.Balances).map I), B (b_2.Over)]]⟩] rfl rfl rfl rfl ?_
          exact j14 _ (Option.some.inj h).symm
        · replace h := cF hb h
          refine og 561 (.hp 1 0 [] 5 0 3) rfl rfl rfl rfl (e_fieldAddr rfl rfl rfl) ?_
          refine og 577 (.isl false ((a_1.Balances).map I)) rfl rfl rfl rfl (e_ld rfl rfl) ?_
          refine og 593 (.hp 17 0 [] 5 0 3) rfl rfl rfl rfl (e_fieldAddr rfl rfl rfl) ?_
          refine og 609 (.isl false ((b_2.Balances).map I)) rfl rfl rfl rfl (e_ld rfl rfl) ?_
          obtain ⟨r15, hr15, h⟩ := bS h
          refine og 625 (B (r15)) rfl rfl rfl rfl (e_callV rfl rfl (call_q rfl rfl rfl (avS (shP rfl) (avS (shP rfl) (avN))) (spec_l1Same_F hr15) rfl rfl rfl)) ?_
          refine og 641 (B ((!r15))) rfl rfl rfl rfl (e_un rfl rfl) ?_
          refine o 657 (B ((!r15))) rfl rfl (e_pickF rfl rfl) ?_
          refine s_ops ?_
          refine run_forget [2, 3, 44] [1, 17] [⟨0, 5, [.agg [I (a_1.Day), .isl false ((a_1.Facts).map str), .isl false ((a_1.Duties).map enc_Duty), .isl false ((a_1.Balances).map I), B (a_1.Over)]]⟩, ⟨0, 5, [.agg [I (b_2.Day), .isl false ((b_2.Facts).map str), .isl false ((b_2.Duties).map enc_Duty), .isl false ((b_2.Balances).map I), B (b_2.Over)]]⟩] rfl rfl rfl rfl ?_
          exact j14 _ (Option.some.inj h).symm
noncomputable def spec_l9Same_ent : Ent := ⟨[false, false], entF2 (decBy encI_State) (decBy encI_State) fun a_1 b_2 => (spec_l9Same a_1 b_2).map fun r => (B (r), [])⟩
theorem spec_l9Same_F {a_1 : State} {b_2 : State} {r : Bool} (h : spec_l9Same a_1 b_2 = some r) : spec_l9Same_ent.F [.agg [I (a_1.Day), .isl false ((a_1.Facts).map str), .isl false ((a_1.Duties).map enc_Duty), .isl false ((a_1.Balances).map I), B (a_1.Over)], .agg [I (b_2.Day), .isl false ((b_2.Facts).map str), .isl false ((b_2.Duties).map enc_Duty), .isl false ((b_2.Balances).map I), B (b_2.Over)]] = some (B (r), []) := by
  have e : spec_l9Same_ent.F [encI_State a_1, encI_State b_2] = (spec_l9Same a_1 b_2).map fun r => (B (r), []) := by
    simp only [spec_l9Same_ent, entF2, decS, dec_ok encI_State_inj, dec_ok encI_State_inj, Option.bind_some]
  refine Eq.trans ?_ ((congrArg (Option.map fun r => ((B (r) : V), ([] : List V))) h))
  exact e
theorem spec_l9Same_good {G : Ground} (g33 : Good Try.prog G 33 spec_l1Same_ent) : Good Try.prog G 21 spec_l9Same_ent := by
  refine good_of_run (E := spec_l9Same_E) (fnOf_good (by
    intro p hp
    simp only [List.mem_cons, List.not_mem_nil, or_false] at hp
    rcases hp with rfl
    · exact g33)) (agree_mkq (by
    intro t ht
    simp only [List.mem_cons, List.not_mem_nil, or_false] at ht
    rcases ht with rfl
    all_goals kernel_rfl)) (Checked.mixed Try.checked) Try.func21 (c := spec_l9Same_c) (n := 2) ⟨rfl, rfl, by decide⟩ ?_
  intro vs r os h
  obtain ⟨v0, v1, a_1, b_2, rfl, q0, q1, h9⟩ := entI2 h
  obtain rfl := dec_of q0
  obtain rfl := dec_of q1
  obtain ⟨r1, hr1, he⟩ := Option.map_eq_some_iff.1 h9
  cases he
  exact ⟨rfl, spec_l9Same_run a_1 b_2 r1 hr1⟩
noncomputable def spec_EqualStates_c : Code := bodyOf Try.f10
noncomputable def spec_EqualStates_E : Env := mkE Try.prog [(21, spec_l9Same_ent)]
def spec_EqualStates_Q (a_1 : State) (b_2 : State) (r : Bool) (st : St) : Prop := finish spec_EqualStates_E Try.f10 [false, false] (enter Try.f10 [.agg [I (a_1.Day), .isl false ((a_1.Facts).map str), .isl false ((a_1.Duties).map enc_Duty), .isl false ((a_1.Balances).map I), B (a_1.Over)], .agg [I (b_2.Day), .isl false ((b_2.Facts).map str), .isl false ((b_2.Duties).map enc_Duty), .isl false ((b_2.Balances).map I), B (b_2.Over)]]).1 st = some (B (r), [])
theorem spec_EqualStates_run (a_1 : State) (b_2 : State) (r : Bool) (h : spec_EqualStates a_1 b_2 = some r) : Run spec_EqualStates_E 0 (spec_EqualStates_Q a_1 b_2 r) [.code spec_EqualStates_c] (enter Try.f10 [.agg [I (a_1.Day), .isl false ((a_1.Facts).map str), .isl false ((a_1.Duties).map enc_Duty), .isl false ((a_1.Balances).map I), B (a_1.Over)], .agg [I (b_2.Day), .isl false ((b_2.Facts).map str), .isl false ((b_2.Duties).map enc_Duty), .isl false ((b_2.Balances).map I), B (b_2.Over)]]).2 := by
  refine run_at (enter_eq (ys := [.agg [I (a_1.Day), .isl false ((a_1.Facts).map str), .isl false ((a_1.Duties).map enc_Duty), .isl false ((a_1.Balances).map I), B (a_1.Over)], .agg [I (b_2.Day), .isl false ((b_2.Facts).map str), .isl false ((b_2.Duties).map enc_Duty), .isl false ((b_2.Balances).map I), B (b_2.Over)]]) (R := []) (n := 8) (l := [(0, .agg [I (a_1.Day), .isl false ((a_1.Facts).map str), .isl false ((a_1.Duties).map enc_Duty), .isl false ((a_1.Balances).map I), B (a_1.Over)]), (1, .agg [I (b_2.Day), .isl false ((b_2.Facts).map str), .isl false ((b_2.Duties).map enc_Duty), .isl false ((b_2.Balances).map I), B (b_2.Over)])]) (nx := 1) rfl rfl rfl) ?_
  unfold spec_EqualStates at h
  refine s_seq rfl ?_
  refine s_reg rfl ?_
  refine o 17 (.hp 1 0 [] 5 0 0) rfl rfl (e_boxP rfl rfl rfl) ?_
  refine o 33 (.hp 17 0 [] 5 0 0) rfl rfl (e_boxP rfl rfl rfl) ?_
  refine o 49 (B (false)) rfl rfl (e_assign rfl) ?_
  refine s_ops ?_
  refine s_seq rfl ?_
  refine s_reg rfl ?_
  refine o 65 (.agg [I (a_1.Day), .isl false ((a_1.Facts).map str), .isl false ((a_1.Duties).map enc_Duty), .isl false ((a_1.Balances).map I), B (a_1.Over)]) rfl rfl (e_ld rfl rfl) ?_
  refine o 81 (.agg [I (b_2.Day), .isl false ((b_2.Facts).map str), .isl false ((b_2.Duties).map enc_Duty), .isl false ((b_2.Balances).map I), B (b_2.Over)]) rfl rfl (e_ld rfl rfl) ?_
  obtain ⟨r3, hr3, h⟩ := bS h
  refine o 97 (B (r3)) rfl rfl (e_callV rfl rfl (call_q rfl rfl rfl (avS (shP rfl) (avS (shP rfl) (avN))) (spec_l9Same_F hr3) rfl rfl rfl)) ?_
  refine o 113 (B (r3)) rfl rfl (e_assign rfl) ?_
  refine s_ops ?_
  obtain rfl := Option.some.inj h
  exact s_ret rfl (fin (vs := [B (r3)]) rfl (absE (absorb_plain rfl) (absEN)) rfl rfl)
noncomputable def spec_EqualStates_ent : Ent := ⟨[false, false], entF2 (decBy encI_State) (decBy encI_State) fun a_1 b_2 => (spec_EqualStates a_1 b_2).map fun r => (B (r), [])⟩
theorem spec_EqualStates_F {a_1 : State} {b_2 : State} {r : Bool} (h : spec_EqualStates a_1 b_2 = some r) : spec_EqualStates_ent.F [.agg [I (a_1.Day), .isl false ((a_1.Facts).map str), .isl false ((a_1.Duties).map enc_Duty), .isl false ((a_1.Balances).map I), B (a_1.Over)], .agg [I (b_2.Day), .isl false ((b_2.Facts).map str), .isl false ((b_2.Duties).map enc_Duty), .isl false ((b_2.Balances).map I), B (b_2.Over)]] = some (B (r), []) := by
  have e : spec_EqualStates_ent.F [encI_State a_1, encI_State b_2] = (spec_EqualStates a_1 b_2).map fun r => (B (r), []) := by
    simp only [spec_EqualStates_ent, entF2, decS, dec_ok encI_State_inj, dec_ok encI_State_inj, Option.bind_some]
  refine Eq.trans ?_ ((congrArg (Option.map fun r => ((B (r) : V), ([] : List V))) h))
  exact e
theorem spec_EqualStates_good {G : Ground} (g21 : Good Try.prog G 21 spec_l9Same_ent) : Good Try.prog G 10 spec_EqualStates_ent := by
  refine good_of_run (E := spec_EqualStates_E) (fnOf_good (by
    intro p hp
    simp only [List.mem_cons, List.not_mem_nil, or_false] at hp
    rcases hp with rfl
    · exact g21)) agree_mk (Checked.mixed Try.checked) Try.func10 (c := spec_EqualStates_c) (n := 2) ⟨rfl, rfl, by decide⟩ ?_
  intro vs r os h
  obtain ⟨v0, v1, a_1, b_2, rfl, q0, q1, h9⟩ := entI2 h
  obtain rfl := dec_of q0
  obtain rfl := dec_of q1
  obtain ⟨r1, hr1, he⟩ := Option.map_eq_some_iff.1 h9
  cases he
  exact ⟨rfl, spec_EqualStates_run a_1 b_2 r1 hr1⟩
noncomputable def slices_Equal_string_string_c : Code := bodyOf Try.f25
noncomputable def slices_Equal_string_string_E : Env := mkE Try.prog []
def slices_Equal_string_string_Q (s_1 : List Str) (s_2 : List Str) (r : Bool) (st : St) : Prop := finish slices_Equal_string_string_E Try.f25 [false, false] (enter Try.f25 [.isl false ((s_1).map str), .isl false ((s_2).map str)]).1 st = some (B (r), [])
theorem slices_Equal_string_string_la_run (s_1 : List Str) (s_2 : List Str)  {Q : St → Prop} {K : List It} (hK : noD K = true) {x3 : Int} {y : Bool ⊕ Unit} (h : slices_Equal_string_string_la s_1 s_2 x3 = some y) : (∀ r', y = .inl r' → ∀ st, slices_Equal_string_string_Q s_1 s_2 r' st → Q st) → (∀ u : Unit, y = .inr u → Run slices_Equal_string_string_E 0 Q K ⟨mkTm .dead 26 [], mkS (rtL [] 1), 1⟩) → Run slices_Equal_string_string_E 0 Q (.code (cL (cL (cR (cL (cR (cR slices_Equal_string_string_c)))))) :: .lp (cL (cL (cR (cL (cR (cR slices_Equal_string_string_c)))))) :: .blk 0 :: K) ⟨mkTm .dead 26 [(0, .isl false ((s_1).map str)), (1, .isl false ((s_2).map str)), (12, I ((len s_1))), (13, I (x3))], mkS (rtL [] 1), 1⟩ := by
  refine fix_ind (P := fun (x3 : Int) (y : Bool ⊕ Unit) => (∀ r', y = .inl r' → ∀ st, slices_Equal_string_string_Q s_1 s_2 r' st → Q st) → (∀ u : Unit, y = .inr u → Run slices_Equal_string_string_E 0 Q K ⟨mkTm .dead 26 [], mkS (rtL [] 1), 1⟩) → Run slices_Equal_string_string_E 0 Q (.code (cL (cL (cR (cL (cR (cR slices_Equal_string_string_c)))))) :: .lp (cL (cL (cR (cL (cR (cR slices_Equal_string_string_c)))))) :: .blk 0 :: K) ⟨mkTm .dead 26 [(0, .isl false ((s_1).map str)), (1, .isl false ((s_2).map str)), (12, I ((len s_1))), (13, I (x3))], mkS (rtL [] 1), 1⟩) (slices_Equal_string_string_la_fin s_1 s_2) ?_ h
  clear h y x3
  intro self ih x3 y h hr hn
  unfold slices_Equal_string_string_la_F at h
  refine s_seq rfl ?_
  refine s_reg rfl ?_
  refine o 17 (B ((decide (x3 < (len s_1))))) rfl rfl (e_bin rfl rfl rfl) ?_
  refine s_ops ?_
  refine s_seq rfl ?_
  refine s_cond rfl rfl (fun hb => ?_) (fun hb => ?_)
  · replace h := cT hb h
    refine s_skip rfl ?_
    refine s_seq rfl ?_
    refine s_block rfl ?_
    refine s_seq rfl ?_
    refine s_reg rfl ?_
    refine o 33 (I (x3)) rfl rfl (e_move rfl) ?_
    refine o 49 (I (x3)) rfl rfl (e_assign rfl) ?_
    refine s_ops ?_
    refine s_seq rfl ?_
    refine s_draw [0, 0, 3, 7, 0, 0, 48, 112, 255] rfl (by decide +kernel) ?_
    refine dp [] [] (.isl false ((s_1).map str)) rfl (e_move rfl) rfl (rfl) (by decide) ?_
    refine dp [] [] (I (x3)) rfl (e_move rfl) rfl (rfl) (by decide) ?_
    obtain ⟨e4, he4, h⟩ := bS h
    refine dp [] [] (.iptr (str (e4)) 0) rfl (e_indexAddr rfl rfl rfl (ix_islE rfl rfl rfl rfl he4)) rfl (rfl) (by decide) ?_
    refine dp [] [] (str (e4)) rfl (e_ld rfl rfl) rfl (rfl) (by decide) ?_
    refine dp [] [] (.isl false ((s_2).map str)) rfl (e_move rfl) rfl (rfl) (by decide) ?_
    refine dp [] [] (I (x3)) rfl (e_move rfl) rfl (rfl) (by decide) ?_
    obtain ⟨e5, he5, h⟩ := bS h
    refine dp [] [] (.iptr (str (e5)) 0) rfl (e_indexAddr rfl rfl rfl (ix_islE rfl rfl rfl rfl he5)) rfl (rfl) (by decide) ?_
    refine dp [] [] (str (e5)) rfl (e_ld rfl rfl) rfl (rfl) (by decide) ?_
    refine dp [] [] (B ((!(e4 == e5)))) rfl (e_bin rfl rfl b_strne) rfl (rfl) (by decide) ?_
    refine de 193 rfl rfl ?_
    refine s_cond rfl rfl (fun hb => ?_) (fun hb => ?_)
    · replace h := cT hb h
      refine s_seq rfl ?_
      refine s_reg rfl ?_
      refine o 209 (B (false)) rfl rfl (e_assign rfl) ?_
      refine s_ops ?_
      exact s_ret rfl (hr _ (Option.some.inj h).symm _ (fin (vs := [B (false)]) rfl (absE (absorb_plain rfl) (absEN)) rfl rfl))
    · replace h := cF hb h
      refine s_skip rfl ?_
      refine s_blk ?_
      refine s_reg rfl ?_
      refine o 209 (I ((w64 (x3 + 1)))) rfl rfl (e_bin rfl rfl rfl) ?_
      refine o 225 (I ((w64 (x3 + 1)))) rfl rfl (e_move rfl) ?_
      refine s_ops ?_
      refine s_lp ?_
      refine run_forget [0, 1, 12, 13] [] [] rfl rfl rfl rfl ?_
      exact ih _ _ h hr hn
  · replace h := cF hb h
    refine s_exit rfl rfl ?_
    refine run_forget [] [] [] rfl rfl rfl hK ?_
    exact hn _ (Option.some.inj h).symm
theorem slices_Equal_string_string_run (s_1 : List Str) (s_2 : List Str) (r : Bool) (h : slices_Equal_string_string s_1 s_2 = some r) : Run slices_Equal_string_string_E 0 (slices_Equal_string_string_Q s_1 s_2 r) [.code slices_Equal_string_string_c] (enter Try.f25 [.isl false ((s_1).map str), .isl false ((s_2).map str)]).2 := by
  refine run_at (enter_eq (ys := [.isl false ((s_1).map str), .isl false ((s_2).map str)]) (R := []) (n := 26) (l := [(0, .isl false ((s_1).map str)), (1, .isl false ((s_2).map str))]) (nx := 1) rfl rfl rfl) ?_
  unfold slices_Equal_string_string at h
  refine s_seq rfl ?_
  refine s_reg rfl ?_
  refine o 17 (B (false)) rfl rfl (e_assign rfl) ?_
  refine s_ops ?_
  refine s_seq rfl ?_
  refine s_seq rfl ?_
  refine s_reg rfl ?_
  refine o 33 (.isl false ((s_1).map str)) rfl rfl (e_move rfl) ?_
  refine o 49 (I ((len s_1))) rfl rfl (e_len rfl rfl rfl (l_isl rfl)) ?_
  refine o 65 (.isl false ((s_2).map str)) rfl rfl (e_move rfl) ?_
  refine o 81 (I ((len s_2))) rfl rfl (e_len rfl rfl rfl (l_isl rfl)) ?_
  refine o 97 (B (((len s_1) != (len s_2)))) rfl rfl (e_bin rfl rfl rfl) ?_
  refine s_ops ?_
  refine s_cond rfl rfl (fun hb => ?_) (fun hb => ?_)
  · replace h := cT hb h
    refine s_seq rfl ?_
    refine s_reg rfl ?_
    refine o 113 (B (false)) rfl rfl (e_assign rfl) ?_
    refine s_ops ?_
    obtain rfl := Option.some.inj h
    exact s_ret rfl (fin (vs := [B (false)]) rfl (absE (absorb_plain rfl) (absEN)) rfl rfl)
  · replace h := cF hb h
    refine s_skip rfl ?_
    refine s_seq rfl ?_
    refine s_seq rfl ?_
    refine s_reg rfl ?_
    refine o 113 (.isl false ((s_1).map str)) rfl rfl (e_move rfl) ?_
    refine o 129 (I ((len s_1))) rfl rfl (e_len rfl rfl rfl (l_isl rfl)) ?_
    refine o 145 (I (0)) rfl rfl (e_move rfl) ?_
    refine s_ops ?_
    refine s_block rfl ?_
    obtain ⟨y6, hy6, hy61, hy62⟩ := bJ h
    refine s_loop rfl ?_
    refine run_forget [0, 1, 12, 13] [] [] rfl rfl rfl rfl ?_
    refine slices_Equal_string_string_la_run s_1 s_2 rfl hy6 (fun r' e st hq => by rw [hy61 r' e] at hq; exact hq) (fun u6 hu => ?_)
    replace h := hy62 u6 hu
    refine s_seq rfl ?_
    refine s_reg rfl ?_
    refine o 17 (B (true)) rfl rfl (e_assign rfl) ?_
    refine s_ops ?_
    obtain rfl := Option.some.inj h
    exact s_ret rfl (fin (vs := [B (true)]) rfl (absE (absorb_plain rfl) (absEN)) rfl rfl)
noncomputable def slices_Equal_string_string_ent : Ent := ⟨[false, false], entF2 (decS str) (decS str) fun s_1 s_2 => (slices_Equal_string_string s_1 s_2).map fun r => (B (r), [])⟩
theorem slices_Equal_string_string_F {s_1 : List Str} {s_2 : List Str} {r : Bool} (h : slices_Equal_string_string s_1 s_2 = some r) : slices_Equal_string_string_ent.F [.isl false ((s_1).map str), .isl false ((s_2).map str)] = some (B (r), []) := by
  have e : slices_Equal_string_string_ent.F [.isl false ((s_1).map str), .isl false ((s_2).map str)] = (slices_Equal_string_string s_1 s_2).map fun r => (B (r), []) := by
    simp only [slices_Equal_string_string_ent, entF2, decS, dec_ok (isl_inj str_inj), dec_ok (isl_inj str_inj), Option.bind_some]
  refine Eq.trans ?_ ((congrArg (Option.map fun r => ((B (r) : V), ([] : List V))) h))
  exact e
theorem slices_Equal_string_string_good {G : Ground} : Good Try.prog G 25 slices_Equal_string_string_ent := by
  refine good_of_run (E := slices_Equal_string_string_E) (fnOf_good (by simp)) agree_mk (Checked.mixed Try.checked) Try.func25 (c := slices_Equal_string_string_c) (n := 2) ⟨rfl, rfl, by decide⟩ ?_
  intro vs r os h
  obtain ⟨v0, v1, s_1, s_2, rfl, q0, q1, h9⟩ := entI2 h
  obtain rfl := dec_of q0
  obtain rfl := dec_of q1
  obtain ⟨r1, hr1, he⟩ := Option.map_eq_some_iff.1 h9
  cases he
  exact ⟨rfl, slices_Equal_string_string_run s_1 s_2 r1 hr1⟩
noncomputable def slices_Equal_impl_Duty_impl_Duty_c : Code := bodyOf Try.f26
noncomputable def slices_Equal_impl_Duty_impl_Duty_E : Env := mkE Try.prog [] [53]
def slices_Equal_impl_Duty_impl_Duty_Q (s_1 : List Duty) (s_2 : List Duty) (r : Bool) (st : St) : Prop := finish slices_Equal_impl_Duty_impl_Duty_E Try.f26 [false, false] (enter Try.f26 [.isl false ((s_1).map enc_Duty), .isl false ((s_2).map enc_Duty)]).1 st = some (B (r), [])
theorem slices_Equal_impl_Duty_impl_Duty_la_run (s_1 : List Duty) (s_2 : List Duty)  {Q : St → Prop} {K : List It} (hK : noD K = true) {x3 : Int} {y : Bool ⊕ Unit} (h : slices_Equal_impl_Duty_impl_Duty_la s_1 s_2 x3 = some y) : (∀ r', y = .inl r' → ∀ st, slices_Equal_impl_Duty_impl_Duty_Q s_1 s_2 r' st → Q st) → (∀ u : Unit, y = .inr u → Run slices_Equal_impl_Duty_impl_Duty_E 0 Q K ⟨mkTm .dead 26 [], mkS (rtL [] 1), 1⟩) → Run slices_Equal_impl_Duty_impl_Duty_E 0 Q (.code (cL (cL (cR (cL (cR (cR slices_Equal_impl_Duty_impl_Duty_c)))))) :: .lp (cL (cL (cR (cL (cR (cR slices_Equal_impl_Duty_impl_Duty_c)))))) :: .blk 0 :: K) ⟨mkTm .dead 26 [(0, .isl false ((s_1).map enc_Duty)), (1, .isl false ((s_2).map enc_Duty)), (12, I ((len s_1))), (13, I (x3))], mkS (rtL [] 1), 1⟩ := by
  refine fix_ind (P := fun (x3 : Int) (y : Bool ⊕ Unit) => (∀ r', y = .inl r' → ∀ st, slices_Equal_impl_Duty_impl_Duty_Q s_1 s_2 r' st → Q st) → (∀ u : Unit, y = .inr u → Run slices_Equal_impl_Duty_impl_Duty_E 0 Q K ⟨mkTm .dead 26 [], mkS (rtL [] 1), 1⟩) → Run slices_Equal_impl_Duty_impl_Duty_E 0 Q (.code (cL (cL (cR (cL (cR (cR slices_Equal_impl_Duty_impl_Duty_c)))))) :: .lp (cL (cL (cR (cL (cR (cR slices_Equal_impl_Duty_impl_Duty_c)))))) :: .blk 0 :: K) ⟨mkTm .dead 26 [(0, .isl false ((s_1).map enc_Duty)), (1, .isl false ((s_2).map enc_Duty)), (12, I ((len s_1))), (13, I (x3))], mkS (rtL [] 1), 1⟩) (slices_Equal_impl_Duty_impl_Duty_la_fin s_1 s_2) ?_ h
  clear h y x3
  intro self ih x3 y h hr hn
  unfold slices_Equal_impl_Duty_impl_Duty_la_F at h
  refine s_seq rfl ?_
  refine s_reg rfl ?_
  refine o 17 (B ((decide (x3 < (len s_1))))) rfl rfl (e_bin rfl rfl rfl) ?_
  refine s_ops ?_
  refine s_seq rfl ?_
  refine s_cond rfl rfl (fun hb => ?_) (fun hb => ?_)
  · replace h := cT hb h
    refine s_skip rfl ?_
    refine s_seq rfl ?_
    refine s_block rfl ?_
    refine s_seq rfl ?_
    refine s_reg rfl ?_
    refine o 33 (I (x3)) rfl rfl (e_move rfl) ?_
    refine o 49 (I (x3)) rfl rfl (e_assign rfl) ?_
    refine s_ops ?_
    refine s_seq rfl ?_
    refine s_draw [0, 0, 3, 7, 0, 0, 48, 112, 255] rfl (by decide +kernel) ?_
    refine dp [] [] (.isl false ((s_1).map enc_Duty)) rfl (e_move rfl) rfl (rfl) (by decide) ?_
    refine dp [] [] (I (x3)) rfl (e_move rfl) rfl (rfl) (by decide) ?_
    obtain ⟨e4, he4, h⟩ := bS h
    refine dp [] [] (.iptr (.agg [I (e4.Clause), I (e4.Since), I (e4.Due), I (e4.Status)]) 0) rfl (e_indexAddr rfl rfl rfl (ix_islE rfl rfl rfl rfl he4)) rfl (rfl) (by decide) ?_
    refine dp [] [] (.agg [I (e4.Clause), I (e4.Since), I (e4.Due), I (e4.Status)]) rfl (e_ld rfl rfl) rfl (rfl) (by decide) ?_
    refine dp [] [] (.isl false ((s_2).map enc_Duty)) rfl (e_move rfl) rfl (rfl) (by decide) ?_
    refine dp [] [] (I (x3)) rfl (e_move rfl) rfl (rfl) (by decide) ?_
    obtain ⟨e5, he5, h⟩ := bS h
    refine dp [] [] (.iptr (.agg [I (e5.Clause), I (e5.Since), I (e5.Due), I (e5.Status)]) 0) rfl (e_indexAddr rfl rfl rfl (ix_islE rfl rfl rfl rfl he5)) rfl (rfl) (by decide) ?_
    refine dp [] [] (.agg [I (e5.Clause), I (e5.Since), I (e5.Due), I (e5.Status)]) rfl (e_ld rfl rfl) rfl (rfl) (by decide) ?_
    refine dp [] [] (B ((!(e4.Clause == e5.Clause && (e4.Since == e5.Since && (e4.Due == e5.Due && (e4.Status == e5.Status && true))))))) rfl (e_bin rfl rfl (b_agne (b := (e4.Clause == e5.Clause && (e4.Since == e5.Since && (e4.Due == e5.Due && (e4.Status == e5.Status && true))))) rfl rfl rfl rfl)) rfl (rfl) (by decide) ?_
    refine de 193 rfl rfl ?_
    refine s_cond rfl rfl (fun hb => ?_) (fun hb => ?_)
    · replace h := cT hb h
      refine s_seq rfl ?_
      refine s_reg rfl ?_
      refine o 209 (B (false)) rfl rfl (e_assign rfl) ?_
      refine s_ops ?_
      exact s_ret rfl (hr _ (Option.some.inj h).symm _ (fin (vs := [B (false)]) rfl (absE (absorb_plain rfl) (absEN)) rfl rfl))
    · replace h := cF hb h
      refine s_skip rfl ?_
      refine s_blk ?_
      refine s_reg rfl ?_
      refine o 209 (I ((w64 (x3 + 1)))) rfl rfl (e_bin rfl rfl rfl) ?_
      refine o 225 (I ((w64 (x3 + 1)))) rfl rfl (e_move rfl) ?_
      refine s_ops ?_
      refine s_lp ?_
      refine run_forget [0, 1, 12, 13] [] [] rfl rfl rfl rfl ?_
      exact ih _ _ h hr hn
  · replace h := cF hb h
    refine s_exit rfl rfl ?_
    refine run_forget [] [] [] rfl rfl rfl hK ?_
    exact hn _ (Option.some.inj h).symm
theorem slices_Equal_impl_Duty_impl_Duty_run (s_1 : List Duty) (s_2 : List Duty) (r : Bool) (h : slices_Equal_impl_Duty_impl_Duty s_1 s_2 = some r) : Run slices_Equal_impl_Duty_impl_Duty_E 0 (slices_Equal_impl_Duty_impl_Duty_Q s_1 s_2 r) [.code slices_Equal_impl_Duty_impl_Duty_c] (enter Try.f26 [.isl false ((s_1).map enc_Duty), .isl false ((s_2).map enc_Duty)]).2 := by
  refine run_at (enter_eq (ys := [.isl false ((s_1).map enc_Duty), .isl false ((s_2).map enc_Duty)]) (R := []) (n := 26) (l := [(0, .isl false ((s_1).map enc_Duty)), (1, .isl false ((s_2).map enc_Duty))]) (nx := 1) rfl rfl rfl) ?_
  unfold slices_Equal_impl_Duty_impl_Duty at h
  refine s_seq rfl ?_
  refine s_reg rfl ?_
  refine o 17 (B (false)) rfl rfl (e_assign rfl) ?_
  refine s_ops ?_
  refine s_seq rfl ?_
  refine s_seq rfl ?_
  refine s_reg rfl ?_
  refine o 33 (.isl false ((s_1).map enc_Duty)) rfl rfl (e_move rfl) ?_
  refine o 49 (I ((len s_1))) rfl rfl (e_len rfl rfl rfl (l_isl rfl)) ?_
  refine o 65 (.isl false ((s_2).map enc_Duty)) rfl rfl (e_move rfl) ?_
  refine o 81 (I ((len s_2))) rfl rfl (e_len rfl rfl rfl (l_isl rfl)) ?_
  refine o 97 (B (((len s_1) != (len s_2)))) rfl rfl (e_bin rfl rfl rfl) ?_
  refine s_ops ?_
  refine s_cond rfl rfl (fun hb => ?_) (fun hb => ?_)
  · replace h := cT hb h
    refine s_seq rfl ?_
    refine s_reg rfl ?_
    refine o 113 (B (false)) rfl rfl (e_assign rfl) ?_
    refine s_ops ?_
    obtain rfl := Option.some.inj h
    exact s_ret rfl (fin (vs := [B (false)]) rfl (absE (absorb_plain rfl) (absEN)) rfl rfl)
  · replace h := cF hb h
    refine s_skip rfl ?_
    refine s_seq rfl ?_
    refine s_seq rfl ?_
    refine s_reg rfl ?_
    refine o 113 (.isl false ((s_1).map enc_Duty)) rfl rfl (e_move rfl) ?_
    refine o 129 (I ((len s_1))) rfl rfl (e_len rfl rfl rfl (l_isl rfl)) ?_
    refine o 145 (I (0)) rfl rfl (e_move rfl) ?_
    refine s_ops ?_
    refine s_block rfl ?_
    obtain ⟨y6, hy6, hy61, hy62⟩ := bJ h
    refine s_loop rfl ?_
    refine run_forget [0, 1, 12, 13] [] [] rfl rfl rfl rfl ?_
    refine slices_Equal_impl_Duty_impl_Duty_la_run s_1 s_2 rfl hy6 (fun r' e st hq => by rw [hy61 r' e] at hq; exact hq) (fun u6 hu => ?_)
    replace h := hy62 u6 hu
    refine s_seq rfl ?_
    refine s_reg rfl ?_
    refine o 17 (B (true)) rfl rfl (e_assign rfl) ?_
    refine s_ops ?_
    obtain rfl := Option.some.inj h
    exact s_ret rfl (fin (vs := [B (true)]) rfl (absE (absorb_plain rfl) (absEN)) rfl rfl)
noncomputable def slices_Equal_impl_Duty_impl_Duty_ent : Ent := ⟨[false, false], entF2 (decS enc_Duty) (decS enc_Duty) fun s_1 s_2 => (slices_Equal_impl_Duty_impl_Duty s_1 s_2).map fun r => (B (r), [])⟩
theorem slices_Equal_impl_Duty_impl_Duty_F {s_1 : List Duty} {s_2 : List Duty} {r : Bool} (h : slices_Equal_impl_Duty_impl_Duty s_1 s_2 = some r) : slices_Equal_impl_Duty_impl_Duty_ent.F [.isl false ((s_1).map enc_Duty), .isl false ((s_2).map enc_Duty)] = some (B (r), []) := by
  have e : slices_Equal_impl_Duty_impl_Duty_ent.F [.isl false ((s_1).map enc_Duty), .isl false ((s_2).map enc_Duty)] = (slices_Equal_impl_Duty_impl_Duty s_1 s_2).map fun r => (B (r), []) := by
    simp only [slices_Equal_impl_Duty_impl_Duty_ent, entF2, decS, dec_ok (isl_inj enc_Duty_inj), dec_ok (isl_inj enc_Duty_inj), Option.bind_some]
  refine Eq.trans ?_ ((congrArg (Option.map fun r => ((B (r) : V), ([] : List V))) h))
  exact e
theorem slices_Equal_impl_Duty_impl_Duty_good {G : Ground} : Good Try.prog G 26 slices_Equal_impl_Duty_impl_Duty_ent := by
  refine good_of_run (E := slices_Equal_impl_Duty_impl_Duty_E) (fnOf_good (by simp)) (agree_mkq (by
    intro t ht
    simp only [List.mem_cons, List.not_mem_nil, or_false] at ht
    rcases ht with rfl
    all_goals kernel_rfl)) (Checked.mixed Try.checked) Try.func26 (c := slices_Equal_impl_Duty_impl_Duty_c) (n := 2) ⟨rfl, rfl, by decide⟩ ?_
  intro vs r os h
  obtain ⟨v0, v1, s_1, s_2, rfl, q0, q1, h9⟩ := entI2 h
  obtain rfl := dec_of q0
  obtain rfl := dec_of q1
  obtain ⟨r1, hr1, he⟩ := Option.map_eq_some_iff.1 h9
  cases he
  exact ⟨rfl, slices_Equal_impl_Duty_impl_Duty_run s_1 s_2 r1 hr1⟩
noncomputable def slices_Equal_int_int_c : Code := bodyOf Try.f27
noncomputable def slices_Equal_int_int_E : Env := mkE Try.prog []
def slices_Equal_int_int_Q (s_1 : List Int) (s_2 : List Int) (r : Bool) (st : St) : Prop := finish slices_Equal_int_int_E Try.f27 [false, false] (enter Try.f27 [.isl false ((s_1).map I), .isl false ((s_2).map I)]).1 st = some (B (r), [])
theorem slices_Equal_int_int_la_run (s_1 : List Int) (s_2 : List Int)  {Q : St → Prop} {K : List It} (hK : noD K = true) {x3 : Int} {y : Bool ⊕ Unit} (h : slices_Equal_int_int_la s_1 s_2 x3 = some y) : (∀ r', y = .inl r' → ∀ st, slices_Equal_int_int_Q s_1 s_2 r' st → Q st) → (∀ u : Unit, y = .inr u → Run slices_Equal_int_int_E 0 Q K ⟨mkTm .dead 26 [], mkS (rtL [] 1), 1⟩) → Run slices_Equal_int_int_E 0 Q (.code (cL (cL (cR (cL (cR (cR slices_Equal_int_int_c)))))) :: .lp (cL (cL (cR (cL (cR (cR slices_Equal_int_int_c)))))) :: .blk 0 :: K) ⟨mkTm .dead 26 [(0, .isl false ((s_1).map I)), (1, .isl false ((s_2).map I)), (12, I ((len s_1))), (13, I (x3))], mkS (rtL [] 1), 1⟩ := by
  refine fix_ind (P := fun (x3 : Int) (y : Bool ⊕ Unit) => (∀ r', y = .inl r' → ∀ st, slices_Equal_int_int_Q s_1 s_2 r' st → Q st) → (∀ u : Unit, y = .inr u → Run slices_Equal_int_int_E 0 Q K ⟨mkTm .dead 26 [], mkS (rtL [] 1), 1⟩) → Run slices_Equal_int_int_E 0 Q (.code (cL (cL (cR (cL (cR (cR slices_Equal_int_int_c)))))) :: .lp (cL (cL (cR (cL (cR (cR slices_Equal_int_int_c)))))) :: .blk 0 :: K) ⟨mkTm .dead 26 [(0, .isl false ((s_1).map I)), (1, .isl false ((s_2).map I)), (12, I ((len s_1))), (13, I (x3))], mkS (rtL [] 1), 1⟩) (slices_Equal_int_int_la_fin s_1 s_2) ?_ h
  clear h y x3
  intro self ih x3 y h hr hn
  unfold slices_Equal_int_int_la_F at h
  refine s_seq rfl ?_
  refine s_reg rfl ?_
  refine o 17 (B ((decide (x3 < (len s_1))))) rfl rfl (e_bin rfl rfl rfl) ?_
  refine s_ops ?_
  refine s_seq rfl ?_
  refine s_cond rfl rfl (fun hb => ?_) (fun hb => ?_)
  · replace h := cT hb h
    refine s_skip rfl ?_
    refine s_seq rfl ?_
    refine s_block rfl ?_
    refine s_seq rfl ?_
    refine s_reg rfl ?_
    refine o 33 (I (x3)) rfl rfl (e_move rfl) ?_
    refine o 49 (I (x3)) rfl rfl (e_assign rfl) ?_
    refine s_ops ?_
    refine s_seq rfl ?_
    refine s_draw [0, 0, 3, 7, 0, 0, 48, 112, 255] rfl (by decide +kernel) ?_
    refine dp [] [] (.isl false ((s_1).map I)) rfl (e_move rfl) rfl (rfl) (by decide) ?_
    refine dp [] [] (I (x3)) rfl (e_move rfl) rfl (rfl) (by decide) ?_
    obtain ⟨e4, he4, h⟩ := bS h
    refine dp [] [] (.iptr (I (e4)) 0) rfl (e_indexAddr rfl rfl rfl (ix_islE rfl rfl rfl rfl he4)) rfl (rfl) (by decide) ?_
    refine dp [] [] (I (e4)) rfl (e_ld rfl rfl) rfl (rfl) (by decide) ?_
    refine dp [] [] (.isl false ((s_2).map I)) rfl (e_move rfl) rfl (rfl) (by decide) ?_
    refine dp [] [] (I (x3)) rfl (e_move rfl) rfl (rfl) (by decide) ?_
    obtain ⟨e5, he5, h⟩ := bS h
    refine dp [] [] (.iptr (I (e5)) 0) rfl (e_indexAddr rfl rfl rfl (ix_islE rfl rfl rfl rfl he5)) rfl (rfl) (by decide) ?_
    refine dp [] [] (I (e5)) rfl (e_ld rfl rfl) rfl (rfl) (by decide) ?_
    refine dp [] [] (B ((e4 != e5))) rfl (e_bin rfl rfl rfl) rfl (rfl) (by decide) ?_
    refine de 193 rfl rfl ?_
    refine s_cond rfl rfl (fun hb => ?_) (fun hb => ?_)
    · replace h := cT hb h
      refine s_seq rfl ?_
      refine s_reg rfl ?_
      refine o 209 (B (false)) rfl rfl (e_assign rfl) ?_
      refine s_ops ?_
      exact s_ret rfl (hr _ (Option.some.inj h).symm _ (fin (vs := [B (false)]) rfl (absE (absorb_plain rfl) (absEN)) rfl rfl))
    · replace h := cF hb h
      refine s_skip rfl ?_
      refine s_blk ?_
      refine s_reg rfl ?_
      refine o 209 (I ((w64 (x3 + 1)))) rfl rfl (e_bin rfl rfl rfl) ?_
      refine o 225 (I ((w64 (x3 + 1)))) rfl rfl (e_move rfl) ?_
      refine s_ops ?_
      refine s_lp ?_
      refine run_forget [0, 1, 12, 13] [] [] rfl rfl rfl rfl ?_
      exact ih _ _ h hr hn
  · replace h := cF hb h
    refine s_exit rfl rfl ?_
    refine run_forget [] [] [] rfl rfl rfl hK ?_
    exact hn _ (Option.some.inj h).symm
theorem slices_Equal_int_int_run (s_1 : List Int) (s_2 : List Int) (r : Bool) (h : slices_Equal_int_int s_1 s_2 = some r) : Run slices_Equal_int_int_E 0 (slices_Equal_int_int_Q s_1 s_2 r) [.code slices_Equal_int_int_c] (enter Try.f27 [.isl false ((s_1).map I), .isl false ((s_2).map I)]).2 := by
  refine run_at (enter_eq (ys := [.isl false ((s_1).map I), .isl false ((s_2).map I)]) (R := []) (n := 26) (l := [(0, .isl false ((s_1).map I)), (1, .isl false ((s_2).map I))]) (nx := 1) rfl rfl rfl) ?_
  unfold slices_Equal_int_int at h
  refine s_seq rfl ?_
  refine s_reg rfl ?_
  refine o 17 (B (false)) rfl rfl (e_assign rfl) ?_
  refine s_ops ?_
  refine s_seq rfl ?_
  refine s_seq rfl ?_
  refine s_reg rfl ?_
  refine o 33 (.isl false ((s_1).map I)) rfl rfl (e_move rfl) ?_
  refine o 49 (I ((len s_1))) rfl rfl (e_len rfl rfl rfl (l_isl rfl)) ?_
  refine o 65 (.isl false ((s_2).map I)) rfl rfl (e_move rfl) ?_
  refine o 81 (I ((len s_2))) rfl rfl (e_len rfl rfl rfl (l_isl rfl)) ?_
  refine o 97 (B (((len s_1) != (len s_2)))) rfl rfl (e_bin rfl rfl rfl) ?_
  refine s_ops ?_
  refine s_cond rfl rfl (fun hb => ?_) (fun hb => ?_)
  · replace h := cT hb h
    refine s_seq rfl ?_
    refine s_reg rfl ?_
    refine o 113 (B (false)) rfl rfl (e_assign rfl) ?_
    refine s_ops ?_
    obtain rfl := Option.some.inj h
    exact s_ret rfl (fin (vs := [B (false)]) rfl (absE (absorb_plain rfl) (absEN)) rfl rfl)
  · replace h := cF hb h
    refine s_skip rfl ?_
    refine s_seq rfl ?_
    refine s_seq rfl ?_
    refine s_reg rfl ?_
    refine o 113 (.isl false ((s_1).map I)) rfl rfl (e_move rfl) ?_
    refine o 129 (I ((len s_1))) rfl rfl (e_len rfl rfl rfl (l_isl rfl)) ?_
    refine o 145 (I (0)) rfl rfl (e_move rfl) ?_
    refine s_ops ?_
    refine s_block rfl ?_
    obtain ⟨y6, hy6, hy61, hy62⟩ := bJ h
    refine s_loop rfl ?_
    refine run_forget [0, 1, 12, 13] [] [] rfl rfl rfl rfl ?_
    refine slices_Equal_int_int_la_run s_1 s_2 rfl hy6 (fun r' e st hq => by rw [hy61 r' e] at hq; exact hq) (fun u6 hu => ?_)
    replace h := hy62 u6 hu
    refine s_seq rfl ?_
    refine s_reg rfl ?_
    refine o 17 (B (true)) rfl rfl (e_assign rfl) ?_
    refine s_ops ?_
    obtain rfl := Option.some.inj h
    exact s_ret rfl (fin (vs := [B (true)]) rfl (absE (absorb_plain rfl) (absEN)) rfl rfl)
noncomputable def slices_Equal_int_int_ent : Ent := ⟨[false, false], entF2 (decS I) (decS I) fun s_1 s_2 => (slices_Equal_int_int s_1 s_2).map fun r => (B (r), [])⟩
theorem slices_Equal_int_int_F {s_1 : List Int} {s_2 : List Int} {r : Bool} (h : slices_Equal_int_int s_1 s_2 = some r) : slices_Equal_int_int_ent.F [.isl false ((s_1).map I), .isl false ((s_2).map I)] = some (B (r), []) := by
  have e : slices_Equal_int_int_ent.F [.isl false ((s_1).map I), .isl false ((s_2).map I)] = (slices_Equal_int_int s_1 s_2).map fun r => (B (r), []) := by
    simp only [slices_Equal_int_int_ent, entF2, decS, dec_ok (isl_inj I_inj), dec_ok (isl_inj I_inj), Option.bind_some]
  refine Eq.trans ?_ ((congrArg (Option.map fun r => ((B (r) : V), ([] : List V))) h))
  exact e
theorem slices_Equal_int_int_good {G : Ground} : Good Try.prog G 27 slices_Equal_int_int_ent := by
  refine good_of_run (E := slices_Equal_int_int_E) (fnOf_good (by simp)) agree_mk (Checked.mixed Try.checked) Try.func27 (c := slices_Equal_int_int_c) (n := 2) ⟨rfl, rfl, by decide⟩ ?_
  intro vs r os h
  obtain ⟨v0, v1, s_1, s_2, rfl, q0, q1, h9⟩ := entI2 h
  obtain rfl := dec_of q0
  obtain rfl := dec_of q1
  obtain ⟨r1, hr1, he⟩ := Option.map_eq_some_iff.1 h9
  cases he
  exact ⟨rfl, slices_Equal_int_int_run s_1 s_2 r1 hr1⟩
noncomputable def impl_EqualStates_c : Code := bodyOf Try.f12
noncomputable def impl_EqualStates_E : Env := mkE Try.prog [(25, slices_Equal_string_string_ent), (26, slices_Equal_impl_Duty_impl_Duty_ent), (27, slices_Equal_int_int_ent)]
def impl_EqualStates_Q (a_1 : State) (b_2 : State) (r : Bool) (st : St) : Prop := finish impl_EqualStates_E Try.f12 [false, false] (enter Try.f12 [.agg [I (a_1.Day), .isl false ((a_1.Facts).map str), .isl false ((a_1.Duties).map enc_Duty), .isl false ((a_1.Balances).map I), B (a_1.Over)], .agg [I (b_2.Day), .isl false ((b_2.Facts).map str), .isl false ((b_2.Duties).map enc_Duty), .isl false ((b_2.Balances).map I), B (b_2.Over)]]).1 st = some (B (r), [])
theorem impl_EqualStates_run (a_1 : State) (b_2 : State) (r : Bool) (h : impl_EqualStates a_1 b_2 = some r) : Run impl_EqualStates_E 0 (impl_EqualStates_Q a_1 b_2 r) [.code impl_EqualStates_c] (enter Try.f12 [.agg [I (a_1.Day), .isl false ((a_1.Facts).map str), .isl false ((a_1.Duties).map enc_Duty), .isl false ((a_1.Balances).map I), B (a_1.Over)], .agg [I (b_2.Day), .isl false ((b_2.Facts).map str), .isl false ((b_2.Duties).map enc_Duty), .isl false ((b_2.Balances).map I), B (b_2.Over)]]).2 := by
  refine run_at (enter_eq (ys := [.agg [I (a_1.Day), .isl false ((a_1.Facts).map str), .isl false ((a_1.Duties).map enc_Duty), .isl false ((a_1.Balances).map I), B (a_1.Over)], .agg [I (b_2.Day), .isl false ((b_2.Facts).map str), .isl false ((b_2.Duties).map enc_Duty), .isl false ((b_2.Balances).map I), B (b_2.Over)]]) (R := []) (n := 38) (l := [(0, .agg [I (a_1.Day), .isl false ((a_1.Facts).map str), .isl false ((a_1.Duties).map enc_Duty), .isl false ((a_1.Balances).map I), B (a_1.Over)]), (1, .agg [I (b_2.Day), .isl false ((b_2.Facts).map str), .isl false ((b_2.Duties).map enc_Duty), .isl false ((b_2.Balances).map I), B (b_2.Over)])]) (nx := 1) rfl rfl rfl) ?_
  unfold impl_EqualStates at h
  refine s_seq rfl ?_
  refine s_reg rfl ?_
  refine o 17 (.hp 1 0 [] 5 0 0) rfl rfl (e_boxP rfl rfl rfl) ?_
  refine o 33 (.hp 17 0 [] 5 0 0) rfl rfl (e_boxP rfl rfl rfl) ?_
  refine o 49 (B (false)) rfl rfl (e_assign rfl) ?_
  refine s_ops ?_
  refine s_seq rfl ?_
  refine s_reg rfl ?_
  refine o 65 (.hp 1 0 [] 5 0 0) rfl rfl (e_fieldAddr rfl rfl rfl) ?_
  refine o 81 (I (a_1.Day)) rfl rfl (e_ld rfl rfl) ?_
  refine o 97 (.hp 17 0 [] 5 0 0) rfl rfl (e_fieldAddr rfl rfl rfl) ?_
  refine o 113 (I (b_2.Day)) rfl rfl (e_ld rfl rfl) ?_
  refine o 129 (B ((a_1.Day == b_2.Day))) rfl rfl (e_bin rfl rfl rfl) ?_
  refine o 145 (B ((a_1.Day == b_2.Day))) rfl rfl (e_move rfl) ?_
  obtain ⟨y3, hy3, hy31, hy32⟩ := bJ h
  have j3 : ∀ u3, y3 = .inr u3 → Run impl_EqualStates_E 0 (impl_EqualStates_Q a_1 b_2 r) (.code (cR (cR impl_EqualStates_c)) :: []) ⟨mkTm .dead 38 [(4, B (u3))], mkS (rtL [] 1), 1⟩ := by
    intro u3 hu
    replace h := hy32 u3 hu
    obtain rfl := Option.some.inj h
    exact s_ret rfl (fin (vs := [B (u3)]) rfl (absE (absorb_plain rfl) (absEN)) rfl rfl)
  have r3 : ∀ r', y3 = .inl r' → ∀ st, impl_EqualStates_Q a_1 b_2 r' st → (impl_EqualStates_Q a_1 b_2 r) st := fun r' e st hq => by rw [hy31 r' e] at hq; exact hq
  replace h := hy3
  refine r_split (b := (a_1.Day == b_2.Day)) 10 rfl (fun hb => ?_) (fun hb => ?_)
  · replace h := cT hb h
    refine og 161 (.hp 1 0 [] 5 0 4) rfl rfl rfl rfl (e_fieldAddr rfl rfl rfl) ?_
    refine og 177 (B (a_1.Over)) rfl rfl rfl rfl (e_ld rfl rfl) ?_
    refine og 193 (.hp 17 0 [] 5 0 4) rfl rfl rfl rfl (e_fieldAddr rfl rfl rfl) ?_
    refine og 209 (B (b_2.Over)) rfl rfl rfl rfl (e_ld rfl rfl) ?_
    refine og 225 (B ((a_1.Over == b_2.Over))) rfl rfl rfl rfl (e_bin rfl rfl rfl) ?_
    refine o 241 (B ((a_1.Over == b_2.Over))) rfl rfl (e_pickT rfl rfl) ?_
    refine o 257 (B ((a_1.Over == b_2.Over))) rfl rfl (e_move rfl) ?_
    obtain ⟨y4, hy4, hy41, hy42⟩ := bL h
    have j4 : ∀ u4, y4 = .inr u4 → Run impl_EqualStates_E 0 (impl_EqualStates_Q a_1 b_2 r) (.code (cR (cR impl_EqualStates_c)) :: []) ⟨mkTm .dead 38 [(4, B (u4))], mkS (rtL [] 1), 1⟩ := by
      intro u4 hu
      replace h := hy42 u4 hu
      refine run_forget [4] [] [] rfl rfl rfl rfl ?_
      exact j3 _ (Option.some.inj h).symm
    have r4 : ∀ r', y4 = .inl r' → ∀ st, impl_EqualStates_Q a_1 b_2 r' st → (impl_EqualStates_Q a_1 b_2 r) st := fun r' e st hq => r3 r' (hy41 r' e) st hq
    replace h := hy4
    refine r_split (b := (a_1.Over == b_2.Over)) 17 rfl (fun hb => ?_) (fun hb => ?_)
    · replace h := cT hb h
      refine og 273 (.hp 1 0 [] 5 0 1) rfl rfl rfl rfl (e_fieldAddr rfl rfl rfl) ?_
      refine og 289 (.isl false ((a_1.Facts).map str)) rfl rfl rfl rfl (e_ld rfl rfl) ?_
      refine og 305 (.hp 17 0 [] 5 0 1) rfl rfl rfl rfl (e_fieldAddr rfl rfl rfl) ?_
      refine og 321 (.isl false ((b_2.Facts).map str)) rfl rfl rfl rfl (e_ld rfl rfl) ?_
      obtain ⟨r5, hr5, h⟩ := bS h
      refine og 337 (B (r5)) rfl rfl rfl rfl (e_callV rfl rfl (call_q rfl rfl rfl (avS (shP rfl) (avS (shP rfl) (avN))) (slices_Equal_string_string_F hr5) rfl rfl rfl)) ?_
      refine o 353 (B (r5)) rfl rfl (e_pickT rfl rfl) ?_
      refine o 369 (B (r5)) rfl rfl (e_move rfl) ?_
      obtain ⟨y6, hy6, hy61, hy62⟩ := bL h
      have j6 : ∀ u6, y6 = .inr u6 → Run impl_EqualStates_E 0 (impl_EqualStates_Q a_1 b_2 r) (.code (cR (cR impl_EqualStates_c)) :: []) ⟨mkTm .dead 38 [(4, B (u6))], mkS (rtL [] 1), 1⟩ := by
        intro u6 hu
        replace h := hy62 u6 hu
        refine run_forget [4] [] [] rfl rfl rfl rfl ?_
        exact j4 _ (Option.some.inj h).symm
      have r6 : ∀ r', y6 = .inl r' → ∀ st, impl_EqualStates_Q a_1 b_2 r' st → (impl_EqualStates_Q a_1 b_2 r) st := fun r' e st hq => r4 r' (hy61 r' e) st hq
      replace h := hy6
      refine r_split (b := r5) 24 rfl (fun hb => ?_) (fun hb => ?_)
      · replace h := cT hb h
        refine og 385 (.hp 1 0 [] 5 0 2) rfl rfl rfl rfl (e_fieldAddr rfl rfl rfl) ?_
        refine og 401 (.isl false ((a_1.Duties).map enc_Duty)) rfl rfl rfl rfl (e_ld rfl rfl) ?_
        refine og 417 (.hp 17 0 [] 5 0 2) rfl rfl rfl rfl (e_fieldAddr rfl rfl rfl) ?_
        refine og 433 (.isl false ((b_2.Duties).map enc_Duty)) rfl rfl rfl rfl (e_ld rfl rfl) ?_
        obtain ⟨r7, hr7, h⟩ := bS h
        refine og 449 (B (r7)) rfl rfl rfl rfl (e_callV rfl rfl (call_q rfl rfl rfl (avS (shP rfl) (avS (shP rfl) (avN))) (slices_Equal_impl_Duty_impl_Duty_F hr7) rfl rfl rfl)) ?_
        refine o 465 (B (r7)) rfl rfl (e_pickT rfl rfl) ?_
        refine o 481 (B (r7)) rfl rfl (e_move rfl) ?_
        obtain ⟨y8, hy8, hy81, hy82⟩ := bL h
        have j8 : ∀ u8, y8 = .inr u8 → Run impl_EqualStates_E 0 (impl_EqualStates_Q a_1 b_2 r) (.code (cR (cR impl_EqualStates_c)) :: []) ⟨mkTm .dead 38 [(4, B (u8))], mkS (rtL [] 1), 1⟩ := by
          intro u8 hu
          replace h := hy82 u8 hu
          refine run_forget [4] [] [] rfl rfl rfl rfl ?_
          exact j6 _ (Option.some.inj h).symm
        have r8 : ∀ r', y8 = .inl r' → ∀ st, impl_EqualStates_Q a_1 b_2 r' st → (impl_EqualStates_Q a_1 b_2 r) st := fun r' e st hq => r6 r' (hy81 r' e) st hq
        replace h := hy8
        refine r_split (b := r7) 31 rfl (fun hb => ?_) (fun hb => ?_)
        · replace h := cT hb h
          refine og 497 (.hp 1 0 [] 5 0 3) rfl rfl rfl rfl (e_fieldAddr rfl rfl rfl) ?_
          refine og 513 (.isl false ((a_1.Balances).map I)) rfl rfl rfl rfl (e_ld rfl rfl) ?_
          refine og 529 (.hp 17 0 [] 5 0 3) rfl rfl rfl rfl (e_fieldAddr rfl rfl rfl) ?_
          refine og 545 (.isl false ((b_2.Balances).map I)) rfl rfl rfl rfl (e_ld rfl rfl) ?_
          obtain ⟨r9, hr9, h⟩ := bS h
          refine og 561 (B (r9)) rfl rfl rfl rfl (e_callV rfl rfl (call_q rfl rfl rfl (avS (shP rfl) (avS (shP rfl) (avN))) (slices_Equal_int_int_F hr9) rfl rfl rfl)) ?_
          refine o 577 (B (r9)) rfl rfl (e_pickT rfl rfl) ?_
          refine o 593 (B (r9)) rfl rfl (e_assign rfl) ?_
          refine s_ops ?_
          refine run_forget [4] [] [] rfl rfl rfl rfl ?_
          exact j8 _ (Option.some.inj h).symm
        · replace h := cF hb h
          refine os 497 rfl rfl rfl rfl ?_
          refine os 513 rfl rfl rfl rfl ?_
          refine os 529 rfl rfl rfl rfl ?_
          refine os 545 rfl rfl rfl rfl ?_
          refine os 561 rfl rfl rfl rfl ?_
          refine o 577 (B (false)) rfl rfl (e_pickF rfl rfl) ?_
          refine o 593 (B (false)) rfl rfl (e_assign rfl) ?_
          refine s_ops ?_
          refine run_forget [4] [] [] rfl rfl rfl rfl ?_
          exact j8 _ (Option.some.inj h).symm
      · replace h := cF hb h
        refine os 385 rfl rfl rfl rfl ?_
        refine os 401 rfl rfl rfl rfl ?_
        refine os 417 rfl rfl rfl rfl ?_
        refine os 433 rfl rfl rfl rfl ?_
        refine os 449 rfl rfl rfl rfl ?_
        refine o 465 (B (false)) rfl rfl (e_pickF rfl rfl) ?_
        refine o 481 (B (false)) rfl rfl (e_move rfl) ?_
        refine os 497 rfl rfl rfl rfl ?_
        refine os 513 rfl rfl rfl rfl ?_
        refine os 529 rfl rfl rfl rfl ?_
        refine os 545 rfl rfl rfl rfl ?_
        refine os 561 rfl rfl rfl rfl ?_
        refine o 577 (B (false)) rfl rfl (e_pickF rfl rfl) ?_
        refine o 593 (B (false)) rfl rfl (e_assign rfl) ?_
        refine s_ops ?_
        refine run_forget [4] [] [] rfl rfl rfl rfl ?_
        exact j6 _ (Option.some.inj h).symm
    · replace h := cF hb h
      refine os 273 rfl rfl rfl rfl ?_
      refine os 289 rfl rfl rfl rfl ?_
      refine os 305 rfl rfl rfl rfl ?_
      refine os 321 rfl rfl rfl rfl ?_
      refine os 337 rfl rfl rfl rfl ?_
      refine o 353 (B (false)) rfl rfl (e_pickF rfl rfl) ?_
      refine o 369 (B (false)) rfl rfl (e_move rfl) ?_
      refine os 385 rfl rfl rfl rfl ?_
      refine os 401 rfl rfl rfl rfl ?_
      refine os 417 rfl rfl rfl rfl ?_
      refine os 433 rfl rfl rfl rfl ?_
      refine os 449 rfl rfl rfl rfl ?_
      refine o 465 (B (false)) rfl rfl (e_pickF rfl rfl) ?_
      refine o 481 (B (false)) rfl rfl (e_move rfl) ?_
      refine os 497 rfl rfl rfl rfl ?_
      refine os 513 rfl rfl rfl rfl ?_
      refine os 529 rfl rfl rfl rfl ?_
      refine os 545 rfl rfl rfl rfl ?_
      refine os 561 rfl rfl rfl rfl ?_
      refine o 577 (B (false)) rfl rfl (e_pickF rfl rfl) ?_
      refine o 593 (B (false)) rfl rfl (e_assign rfl) ?_
      refine s_ops ?_
      refine run_forget [4] [] [] rfl rfl rfl rfl ?_
      exact j4 _ (Option.some.inj h).symm
  · replace h := cF hb h
    refine os 161 rfl rfl rfl rfl ?_
    refine os 177 rfl rfl rfl rfl ?_
    refine os 193 rfl rfl rfl rfl ?_
    refine os 209 rfl rfl rfl rfl ?_
    refine os 225 rfl rfl rfl rfl ?_
    refine o 241 (B (false)) rfl rfl (e_pickF rfl rfl) ?_
    refine o 257 (B (false)) rfl rfl (e_move rfl) ?_
    refine os 273 rfl rfl rfl rfl ?_
    refine os 289 rfl rfl rfl rfl ?_
    refine os 305 rfl rfl rfl rfl ?_
    refine os 321 rfl rfl rfl rfl ?_
    refine os 337 rfl rfl rfl rfl ?_
    refine o 353 (B (false)) rfl rfl (e_pickF rfl rfl) ?_
    refine o 369 (B (false)) rfl rfl (e_move rfl) ?_
    refine os 385 rfl rfl rfl rfl ?_
    refine os 401 rfl rfl rfl rfl ?_
    refine os 417 rfl rfl rfl rfl ?_
    refine os 433 rfl rfl rfl rfl ?_
    refine os 449 rfl rfl rfl rfl ?_
    refine o 465 (B (false)) rfl rfl (e_pickF rfl rfl) ?_
    refine o 481 (B (false)) rfl rfl (e_move rfl) ?_
    refine os 497 rfl rfl rfl rfl ?_
    refine os 513 rfl rfl rfl rfl ?_
    refine os 529 rfl rfl rfl rfl ?_
    refine os 545 rfl rfl rfl rfl ?_
    refine os 561 rfl rfl rfl rfl ?_
    refine o 577 (B (false)) rfl rfl (e_pickF rfl rfl) ?_
    refine o 593 (B (false)) rfl rfl (e_assign rfl) ?_
    refine s_ops ?_
    refine run_forget [4] [] [] rfl rfl rfl rfl ?_
    exact j3 _ (Option.some.inj h).symm
noncomputable def impl_EqualStates_ent : Ent := ⟨[false, false], entF2 (decBy encI_State) (decBy encI_State) fun a_1 b_2 => (impl_EqualStates a_1 b_2).map fun r => (B (r), [])⟩
theorem impl_EqualStates_F {a_1 : State} {b_2 : State} {r : Bool} (h : impl_EqualStates a_1 b_2 = some r) : impl_EqualStates_ent.F [.agg [I (a_1.Day), .isl false ((a_1.Facts).map str), .isl false ((a_1.Duties).map enc_Duty), .isl false ((a_1.Balances).map I), B (a_1.Over)], .agg [I (b_2.Day), .isl false ((b_2.Facts).map str), .isl false ((b_2.Duties).map enc_Duty), .isl false ((b_2.Balances).map I), B (b_2.Over)]] = some (B (r), []) := by
  have e : impl_EqualStates_ent.F [encI_State a_1, encI_State b_2] = (impl_EqualStates a_1 b_2).map fun r => (B (r), []) := by
    simp only [impl_EqualStates_ent, entF2, decS, dec_ok encI_State_inj, dec_ok encI_State_inj, Option.bind_some]
  refine Eq.trans ?_ ((congrArg (Option.map fun r => ((B (r) : V), ([] : List V))) h))
  exact e
theorem impl_EqualStates_good {G : Ground} (g25 : Good Try.prog G 25 slices_Equal_string_string_ent) (g26 : Good Try.prog G 26 slices_Equal_impl_Duty_impl_Duty_ent) (g27 : Good Try.prog G 27 slices_Equal_int_int_ent) : Good Try.prog G 12 impl_EqualStates_ent := by
  refine good_of_run (E := impl_EqualStates_E) (fnOf_good (by
    intro p hp
    simp only [List.mem_cons, List.not_mem_nil, or_false] at hp
    rcases hp with rfl | rfl | rfl
    · exact g25
    · exact g26
    · exact g27)) agree_mk (Checked.mixed Try.checked) Try.func12 (c := impl_EqualStates_c) (n := 2) ⟨rfl, rfl, by decide⟩ ?_
  intro vs r os h
  obtain ⟨v0, v1, a_1, b_2, rfl, q0, q1, h9⟩ := entI2 h
  obtain rfl := dec_of q0
  obtain rfl := dec_of q1
  obtain ⟨r1, hr1, he⟩ := Option.map_eq_some_iff.1 h9
  cases he
  exact ⟨rfl, impl_EqualStates_run a_1 b_2 r1 hr1⟩
noncomputable def laws_eqStringS_c : Code := bodyOf Try.f28
noncomputable def laws_eqStringS_E : Env := mkE Try.prog []
def laws_eqStringS_Q (a_1 : List Str) (b_2 : List Str) (r : Bool) (st : St) : Prop := finish laws_eqStringS_E Try.f28 [false, false] (enter Try.f28 [.isl false ((a_1).map str), .isl false ((b_2).map str)]).1 st = some (B (r), [])
theorem laws_eqStringS_la_run (a_1 : List Str) (b_2 : List Str)  {Q : St → Prop} {K : List It} (hK : noD K = true) {x3 : Int} {y : Bool ⊕ Unit} (h : laws_eqStringS_la a_1 b_2 x3 = some y) : (∀ r', y = .inl r' → ∀ st, laws_eqStringS_Q a_1 b_2 r' st → Q st) → (∀ u : Unit, y = .inr u → Run laws_eqStringS_E 0 Q K ⟨mkTm .dead 26 [], mkS (rtL [] 1), 1⟩) → Run laws_eqStringS_E 0 Q (.code (cL (cL (cR (cL (cR (cR laws_eqStringS_c)))))) :: .lp (cL (cL (cR (cL (cR (cR laws_eqStringS_c)))))) :: .blk 0 :: K) ⟨mkTm .dead 26 [(0, .isl false ((a_1).map str)), (1, .isl false ((b_2).map str)), (5, I (x3))], mkS (rtL [] 1), 1⟩ := by
  refine fix_ind (P := fun (x3 : Int) (y : Bool ⊕ Unit) => (∀ r', y = .inl r' → ∀ st, laws_eqStringS_Q a_1 b_2 r' st → Q st) → (∀ u : Unit, y = .inr u → Run laws_eqStringS_E 0 Q K ⟨mkTm .dead 26 [], mkS (rtL [] 1), 1⟩) → Run laws_eqStringS_E 0 Q (.code (cL (cL (cR (cL (cR (cR laws_eqStringS_c)))))) :: .lp (cL (cL (cR (cL (cR (cR laws_eqStringS_c)))))) :: .blk 0 :: K) ⟨mkTm .dead 26 [(0, .isl false ((a_1).map str)), (1, .isl false ((b_2).map str)), (5, I (x3))], mkS (rtL [] 1), 1⟩) (laws_eqStringS_la_fin a_1 b_2) ?_ h
  clear h y x3
  intro self ih x3 y h hr hn
  unfold laws_eqStringS_la_F at h
  refine s_seq rfl ?_
  refine s_seq rfl ?_
  refine s_reg rfl ?_
  refine o 17 (I (x3)) rfl rfl (e_move rfl) ?_
  refine o 33 (.isl false ((a_1).map str)) rfl rfl (e_move rfl) ?_
  refine o 49 (I ((len a_1))) rfl rfl (e_len rfl rfl rfl (l_isl rfl)) ?_
  refine o 65 (B ((decide (x3 < (len a_1))))) rfl rfl (e_bin rfl rfl rfl) ?_
  refine s_ops ?_
  refine s_cond rfl rfl (fun hb => ?_) (fun hb => ?_)
  · replace h := cT hb h
    refine s_skip rfl ?_
    refine s_seq rfl ?_
    refine s_block rfl ?_
    refine s_seq rfl ?_
    refine s_draw [0, 0, 3, 7, 0, 0, 48, 112, 255] rfl (by decide +kernel) ?_
    refine dp [] [] (.isl false ((a_1).map str)) rfl (e_move rfl) rfl (rfl) (by decide) ?_
    refine dp [] [] (I (x3)) rfl (e_move rfl) rfl (rfl) (by decide) ?_
    obtain ⟨e4, he4, h⟩ := bS h
    refine dp [] [] (.iptr (str (e4)) 0) rfl (e_indexAddr rfl rfl rfl (ix_islE rfl rfl rfl rfl he4)) rfl (rfl) (by decide) ?_
    refine dp [] [] (str (e4)) rfl (e_ld rfl rfl) rfl (rfl) (by decide) ?_
    refine dp [] [] (.isl false ((b_2).map str)) rfl (e_move rfl) rfl (rfl) (by decide) ?_
    refine dp [] [] (I (x3)) rfl (e_move rfl) rfl (rfl) (by decide) ?_
    obtain ⟨e5, he5, h⟩ := bS h
    refine dp [] [] (.iptr (str (e5)) 0) rfl (e_indexAddr rfl rfl rfl (ix_islE rfl rfl rfl rfl he5)) rfl (rfl) (by decide) ?_
    refine dp [] [] (str (e5)) rfl (e_ld rfl rfl) rfl (rfl) (by decide) ?_
    refine dp [] [] (B ((!(e4 == e5)))) rfl (e_bin rfl rfl b_strne) rfl (rfl) (by decide) ?_
    refine de 209 rfl rfl ?_
    refine s_cond rfl rfl (fun hb => ?_) (fun hb => ?_)
    · replace h := cT hb h
      refine s_seq rfl ?_
      refine s_reg rfl ?_
      refine o 225 (B (false)) rfl rfl (e_assign rfl) ?_
      refine s_ops ?_
      exact s_ret rfl (hr _ (Option.some.inj h).symm _ (fin (vs := [B (false)]) rfl (absE (absorb_plain rfl) (absEN)) rfl rfl))
    · replace h := cF hb h
      refine s_skip rfl ?_
      refine s_blk ?_
      refine s_reg rfl ?_
      refine o 225 (I (x3)) rfl rfl (e_move rfl) ?_
      refine o 241 (I ((w64 (x3 + 1)))) rfl rfl (e_bin rfl rfl rfl) ?_
      refine o 257 (I ((w64 (x3 + 1)))) rfl rfl (e_assign rfl) ?_
      refine s_ops ?_
      refine s_lp ?_
      refine run_forget [0, 1, 5] [] [] rfl rfl rfl rfl ?_
      exact ih _ _ h hr hn
  · replace h := cF hb h
    refine s_exit rfl rfl ?_
    refine run_forget [] [] [] rfl rfl rfl hK ?_
    exact hn _ (Option.some.inj h).symm
theorem laws_eqStringS_run (a_1 : List Str) (b_2 : List Str) (r : Bool) (h : laws_eqStringS a_1 b_2 = some r) : Run laws_eqStringS_E 0 (laws_eqStringS_Q a_1 b_2 r) [.code laws_eqStringS_c] (enter Try.f28 [.isl false ((a_1).map str), .isl false ((b_2).map str)]).2 := by
  refine run_at (enter_eq (ys := [.isl false ((a_1).map str), .isl false ((b_2).map str)]) (R := []) (n := 26) (l := [(0, .isl false ((a_1).map str)), (1, .isl false ((b_2).map str))]) (nx := 1) rfl rfl rfl) ?_
  unfold laws_eqStringS at h
  refine s_seq rfl ?_
  refine s_reg rfl ?_
  refine o 17 (B (false)) rfl rfl (e_assign rfl) ?_
  refine s_ops ?_
  refine s_seq rfl ?_
  refine s_seq rfl ?_
  refine s_reg rfl ?_
  refine o 33 (.isl false ((a_1).map str)) rfl rfl (e_move rfl) ?_
  refine o 49 (I ((len a_1))) rfl rfl (e_len rfl rfl rfl (l_isl rfl)) ?_
  refine o 65 (.isl false ((b_2).map str)) rfl rfl (e_move rfl) ?_
  refine o 81 (I ((len b_2))) rfl rfl (e_len rfl rfl rfl (l_isl rfl)) ?_
  refine o 97 (B (((len a_1) != (len b_2)))) rfl rfl (e_bin rfl rfl rfl) ?_
  refine s_ops ?_
  refine s_cond rfl rfl (fun hb => ?_) (fun hb => ?_)
  · replace h := cT hb h
    refine s_seq rfl ?_
    refine s_reg rfl ?_
    refine o 113 (B (false)) rfl rfl (e_assign rfl) ?_
    refine s_ops ?_
    obtain rfl := Option.some.inj h
    exact s_ret rfl (fin (vs := [B (false)]) rfl (absE (absorb_plain rfl) (absEN)) rfl rfl)
  · replace h := cF hb h
    refine s_skip rfl ?_
    refine s_seq rfl ?_
    refine s_seq rfl ?_
    refine s_reg rfl ?_
    refine o 113 (I (0)) rfl rfl (e_assign rfl) ?_
    refine s_ops ?_
    refine s_block rfl ?_
    obtain ⟨y6, hy6, hy61, hy62⟩ := bJ h
    refine s_loop rfl ?_
    refine run_forget [0, 1, 5] [] [] rfl rfl rfl rfl ?_
    refine laws_eqStringS_la_run a_1 b_2 rfl hy6 (fun r' e st hq => by rw [hy61 r' e] at hq; exact hq) (fun u6 hu => ?_)
    replace h := hy62 u6 hu
    refine s_seq rfl ?_
    refine s_reg rfl ?_
    refine o 17 (B (true)) rfl rfl (e_assign rfl) ?_
    refine s_ops ?_
    obtain rfl := Option.some.inj h
    exact s_ret rfl (fin (vs := [B (true)]) rfl (absE (absorb_plain rfl) (absEN)) rfl rfl)
noncomputable def laws_eqStringS_ent : Ent := ⟨[false, false], entF2 (decS str) (decS str) fun a_1 b_2 => (laws_eqStringS a_1 b_2).map fun r => (B (r), [])⟩
theorem laws_eqStringS_F {a_1 : List Str} {b_2 : List Str} {r : Bool} (h : laws_eqStringS a_1 b_2 = some r) : laws_eqStringS_ent.F [.isl false ((a_1).map str), .isl false ((b_2).map str)] = some (B (r), []) := by
  have e : laws_eqStringS_ent.F [.isl false ((a_1).map str), .isl false ((b_2).map str)] = (laws_eqStringS a_1 b_2).map fun r => (B (r), []) := by
    simp only [laws_eqStringS_ent, entF2, decS, dec_ok (isl_inj str_inj), dec_ok (isl_inj str_inj), Option.bind_some]
  refine Eq.trans ?_ ((congrArg (Option.map fun r => ((B (r) : V), ([] : List V))) h))
  exact e
theorem laws_eqStringS_good {G : Ground} : Good Try.prog G 28 laws_eqStringS_ent := by
  refine good_of_run (E := laws_eqStringS_E) (fnOf_good (by simp)) agree_mk (Checked.mixed Try.checked) Try.func28 (c := laws_eqStringS_c) (n := 2) ⟨rfl, rfl, by decide⟩ ?_
  intro vs r os h
  obtain ⟨v0, v1, a_1, b_2, rfl, q0, q1, h9⟩ := entI2 h
  obtain rfl := dec_of q0
  obtain rfl := dec_of q1
  obtain ⟨r1, hr1, he⟩ := Option.map_eq_some_iff.1 h9
  cases he
  exact ⟨rfl, laws_eqStringS_run a_1 b_2 r1 hr1⟩
noncomputable def laws_eqDuty_c : Code := bodyOf Try.f35
noncomputable def laws_eqDuty_E : Env := mkE Try.prog []
def laws_eqDuty_Q (a_1 : Duty) (b_2 : Duty) (r : Bool) (st : St) : Prop := finish laws_eqDuty_E Try.f35 [false, false] (enter Try.f35 [.agg [I (a_1.Clause), I (a_1.Since), I (a_1.Due), I (a_1.Status)], .agg [I (b_2.Clause), I (b_2.Since), I (b_2.Due), I (b_2.Status)]]).1 st = some (B (r), [])
theorem laws_eqDuty_run (a_1 : Duty) (b_2 : Duty) (r : Bool) (h : laws_eqDuty a_1 b_2 = some r) : Run laws_eqDuty_E 0 (laws_eqDuty_Q a_1 b_2 r) [.code laws_eqDuty_c] (enter Try.f35 [.agg [I (a_1.Clause), I (a_1.Since), I (a_1.Due), I (a_1.Status)], .agg [I (b_2.Clause), I (b_2.Since), I (b_2.Due), I (b_2.Status)]]).2 := by
  refine run_at (enter_eq (ys := [.agg [I (a_1.Clause), I (a_1.Since), I (a_1.Due), I (a_1.Status)], .agg [I (b_2.Clause), I (b_2.Since), I (b_2.Due), I (b_2.Status)]]) (R := []) (n := 25) (l := [(0, .agg [I (a_1.Clause), I (a_1.Since), I (a_1.Due), I (a_1.Status)]), (1, .agg [I (b_2.Clause), I (b_2.Since), I (b_2.Due), I (b_2.Status)])]) (nx := 1) rfl rfl rfl) ?_
  unfold laws_eqDuty at h
  refine s_seq rfl ?_
  refine s_reg rfl ?_
  refine o 17 (.hp 1 0 [] 4 0 0) rfl rfl (e_boxP rfl rfl rfl) ?_
  refine o 33 (.hp 17 0 [] 4 0 0) rfl rfl (e_boxP rfl rfl rfl) ?_
  refine o 49 (B (false)) rfl rfl (e_assign rfl) ?_
  refine s_ops ?_
  refine s_seq rfl ?_
  refine s_seq rfl ?_
  refine s_reg rfl ?_
  refine o 65 (.hp 1 0 [] 4 0 0) rfl rfl (e_fieldAddr rfl rfl rfl) ?_
  refine o 81 (I (a_1.Clause)) rfl rfl (e_ld rfl rfl) ?_
  refine o 97 (.hp 17 0 [] 4 0 0) rfl rfl (e_fieldAddr rfl rfl rfl) ?_
  refine o 113 (I (b_2.Clause)) rfl rfl (e_ld rfl rfl) ?_
  refine o 129 (B ((a_1.Clause != b_2.Clause))) rfl rfl (e_bin rfl rfl rfl) ?_
  refine s_ops ?_
  refine s_cond rfl rfl (fun hb => ?_) (fun hb => ?_)
  · replace h := cT hb h
    refine s_seq rfl ?_
    refine s_reg rfl ?_
    refine o 145 (B (false)) rfl rfl (e_assign rfl) ?_
    refine s_ops ?_
    obtain rfl := Option.some.inj h
    exact s_ret rfl (fin (vs := [B (false)]) rfl (absE (absorb_plain rfl) (absEN)) rfl rfl)
  · replace h := cF hb h
    refine s_skip rfl ?_
    refine s_seq rfl ?_
    refine s_seq rfl ?_
    refine s_reg rfl ?_
    refine o 145 (.hp 1 0 [] 4 0 1) rfl rfl (e_fieldAddr rfl rfl rfl) ?_
    refine o 161 (I (a_1.Since)) rfl rfl (e_ld rfl rfl) ?_
    refine o 177 (.hp 17 0 [] 4 0 1) rfl rfl (e_fieldAddr rfl rfl rfl) ?_
    refine o 193 (I (b_2.Since)) rfl rfl (e_ld rfl rfl) ?_
    refine o 209 (B ((a_1.Since != b_2.Since))) rfl rfl (e_bin rfl rfl rfl) ?_
    refine s_ops ?_
    refine s_cond rfl rfl (fun hb => ?_) (fun hb => ?_)
    · replace h := cT hb h
      refine s_seq rfl ?_
      refine s_reg rfl ?_
      refine o 225 (B (false)) rfl rfl (e_assign rfl) ?_
      refine s_ops ?_
      obtain rfl := Option.some.inj h
      exact s_ret rfl (fin (vs := [B (false)]) rfl (absE (absorb_plain rfl) (absEN)) rfl rfl)
    · replace h := cF hb h
      refine s_skip rfl ?_
      refine s_seq rfl ?_
      refine s_seq rfl ?_
      refine s_reg rfl ?_
      refine o 225 (.hp 1 0 [] 4 0 2) rfl rfl (e_fieldAddr rfl rfl rfl) ?_
      refine o 241 (I (a_1.Due)) rfl rfl (e_ld rfl rfl) ?_
      refine o 257 (.hp 17 0 [] 4 0 2) rfl rfl (e_fieldAddr rfl rfl rfl) ?_
      refine o 273 (I (b_2.Due)) rfl rfl (e_ld rfl rfl) ?_
      refine o 289 (B ((a_1.Due != b_2.Due))) rfl rfl (e_bin rfl rfl rfl) ?_
      refine s_ops ?_
      refine s_cond rfl rfl (fun hb => ?_) (fun hb => ?_)
      · replace h := cT hb h
        refine s_seq rfl ?_
        refine s_reg rfl ?_
        refine o 305 (B (false)) rfl rfl (e_assign rfl) ?_
        refine s_ops ?_
        obtain rfl := Option.some.inj h
        exact s_ret rfl (fin (vs := [B (false)]) rfl (absE (absorb_plain rfl) (absEN)) rfl rfl)
      · replace h := cF hb h
        refine s_skip rfl ?_
        refine s_seq rfl ?_
        refine s_seq rfl ?_
        refine s_reg rfl ?_
        refine o 305 (.hp 1 0 [] 4 0 3) rfl rfl (e_fieldAddr rfl rfl rfl) ?_
        refine o 321 (I (a_1.Status)) rfl rfl (e_ld rfl rfl) ?_
        refine o 337 (.hp 17 0 [] 4 0 3) rfl rfl (e_fieldAddr rfl rfl rfl) ?_
        refine o 353 (I (b_2.Status)) rfl rfl (e_ld rfl rfl) ?_
        refine o 369 (B ((a_1.Status != b_2.Status))) rfl rfl (e_bin rfl rfl rfl) ?_
        refine s_ops ?_
        refine s_cond rfl rfl (fun hb => ?_) (fun hb => ?_)
        · replace h := cT hb h
          refine s_seq rfl ?_
          refine s_reg rfl ?_
          refine o 385 (B (false)) rfl rfl (e_assign rfl) ?_
          refine s_ops ?_
          obtain rfl := Option.some.inj h
          exact s_ret rfl (fin (vs := [B (false)]) rfl (absE (absorb_plain rfl) (absEN)) rfl rfl)
        · replace h := cF hb h
          refine s_skip rfl ?_
          refine s_seq rfl ?_
          refine s_reg rfl ?_
          refine o 385 (B (true)) rfl rfl (e_assign rfl) ?_
          refine s_ops ?_
          obtain rfl := Option.some.inj h
          exact s_ret rfl (fin (vs := [B (true)]) rfl (absE (absorb_plain rfl) (absEN)) rfl rfl)
noncomputable def laws_eqDuty_ent : Ent := ⟨[false, false], entF2 (decBy enc_Duty) (decBy enc_Duty) fun a_1 b_2 => (laws_eqDuty a_1 b_2).map fun r => (B (r), [])⟩
theorem laws_eqDuty_F {a_1 : Duty} {b_2 : Duty} {r : Bool} (h : laws_eqDuty a_1 b_2 = some r) : laws_eqDuty_ent.F [.agg [I (a_1.Clause), I (a_1.Since), I (a_1.Due), I (a_1.Status)], .agg [I (b_2.Clause), I (b_2.Since), I (b_2.Due), I (b_2.Status)]] = some (B (r), []) := by
  have e : laws_eqDuty_ent.F [enc_Duty a_1, enc_Duty b_2] = (laws_eqDuty a_1 b_2).map fun r => (B (r), []) := by
    simp only [laws_eqDuty_ent, entF2, decS, dec_ok enc_Duty_inj, dec_ok enc_Duty_inj, Option.bind_some]
  refine Eq.trans ?_ ((congrArg (Option.map fun r => ((B (r) : V), ([] : List V))) h))
  exact e
theorem laws_eqDuty_good {G : Ground} : Good Try.prog G 35 laws_eqDuty_ent := by
  refine good_of_run (E := laws_eqDuty_E) (fnOf_good (by simp)) agree_mk (Checked.mixed Try.checked) Try.func35 (c := laws_eqDuty_c) (n := 2) ⟨rfl, rfl, by decide⟩ ?_
  intro vs r os h
  obtain ⟨v0, v1, a_1, b_2, rfl, q0, q1, h9⟩ := entI2 h
  obtain rfl := dec_of q0
  obtain rfl := dec_of q1
  obtain ⟨r1, hr1, he⟩ := Option.map_eq_some_iff.1 h9
  cases he
  exact ⟨rfl, laws_eqDuty_run a_1 b_2 r1 hr1⟩
noncomputable def laws_eqDutyS_c : Code := bodyOf Try.f29
noncomputable def laws_eqDutyS_E : Env := mkE Try.prog [(35, laws_eqDuty_ent)]
def laws_eqDutyS_Q (a_1 : List Duty) (b_2 : List Duty) (r : Bool) (st : St) : Prop := finish laws_eqDutyS_E Try.f29 [false, false] (enter Try.f29 [.isl false ((a_1).map enc_Duty), .isl false ((b_2).map enc_Duty)]).1 st = some (B (r), [])
theorem laws_eqDutyS_la_run (a_1 : List Duty) (b_2 : List Duty)  {Q : St → Prop} {K : List It} (hK : noD K = true) {x3 : Int} {y : Bool ⊕ Unit} (h : laws_eqDutyS_la a_1 b_2 x3 = some y) : (∀ r', y = .inl r' → ∀ st, laws_eqDutyS_Q a_1 b_2 r' st → Q st) → (∀ u : Unit, y = .inr u → Run laws_eqDutyS_E 0 Q K ⟨mkTm .dead 27 [], mkS (rtL [] 1), 1⟩) → Run laws_eqDutyS_E 0 Q (.code (cL (cL (cR (cL (cR (cR laws_eqDutyS_c)))))) :: .lp (cL (cL (cR (cL (cR (cR laws_eqDutyS_c)))))) :: .blk 0 :: K) ⟨mkTm .dead 27 [(0, .isl false ((a_1).map enc_Duty)), (1, .isl false ((b_2).map enc_Duty)), (5, I (x3))], mkS (rtL [] 1), 1⟩ := by
  refine fix_ind (P := fun (x3 : Int) (y : Bool ⊕ Unit) => (∀ r', y = .inl r' → ∀ st, laws_eqDutyS_Q a_1 b_2 r' st → Q st) → (∀ u : Unit, y = .inr u → Run laws_eqDutyS_E 0 Q K ⟨mkTm .dead 27 [], mkS (rtL [] 1), 1⟩) → Run laws_eqDutyS_E 0 Q (.code (cL (cL (cR (cL (cR (cR laws_eqDutyS_c)))))) :: .lp (cL (cL (cR (cL (cR (cR laws_eqDutyS_c)))))) :: .blk 0 :: K) ⟨mkTm .dead 27 [(0, .isl false ((a_1).map enc_Duty)), (1, .isl false ((b_2).map enc_Duty)), (5, I (x3))], mkS (rtL [] 1), 1⟩) (laws_eqDutyS_la_fin a_1 b_2) ?_ h
  clear h y x3
  intro self ih x3 y h hr hn
  unfold laws_eqDutyS_la_F at h
  refine s_seq rfl ?_
  refine s_seq rfl ?_
  refine s_reg rfl ?_
  refine o 17 (I (x3)) rfl rfl (e_move rfl) ?_
  refine o 33 (.isl false ((a_1).map enc_Duty)) rfl rfl (e_move rfl) ?_
  refine o 49 (I ((len a_1))) rfl rfl (e_len rfl rfl rfl (l_isl rfl)) ?_
  refine o 65 (B ((decide (x3 < (len a_1))))) rfl rfl (e_bin rfl rfl rfl) ?_
  refine s_ops ?_
  refine s_cond rfl rfl (fun hb => ?_) (fun hb => ?_)
  · replace h := cT hb h
    refine s_skip rfl ?_
    refine s_seq rfl ?_
    refine s_block rfl ?_
    refine s_seq rfl ?_
    refine s_draw [0, 0, 3, 7, 0, 0, 48, 112, 255, 511] rfl (by decide +kernel) ?_
    refine dp [] [] (.isl false ((a_1).map enc_Duty)) rfl (e_move rfl) rfl (rfl) (by decide) ?_
    refine dp [] [] (I (x3)) rfl (e_move rfl) rfl (rfl) (by decide) ?_
    obtain ⟨e4, he4, h⟩ := bS h
    refine dp [] [] (.iptr (.agg [I (e4.Clause), I (e4.Since), I (e4.Due), I (e4.Status)]) 0) rfl (e_indexAddr rfl rfl rfl (ix_islE rfl rfl rfl rfl he4)) rfl (rfl) (by decide) ?_
    refine dp [] [] (.agg [I (e4.Clause), I (e4.Since), I (e4.Due), I (e4.Status)]) rfl (e_ld rfl rfl) rfl (rfl) (by decide) ?_
    refine dp [] [] (.isl false ((b_2).map enc_Duty)) rfl (e_move rfl) rfl (rfl) (by decide) ?_
    refine dp [] [] (I (x3)) rfl (e_move rfl) rfl (rfl) (by decide) ?_
    obtain ⟨e5, he5, h⟩ := bS h
    refine dp [] [] (.iptr (.agg [I (e5.Clause), I (e5.Since), I (e5.Due), I (e5.Status)]) 0) rfl (e_indexAddr rfl rfl rfl (ix_islE rfl rfl rfl rfl he5)) rfl (rfl) (by decide) ?_
    refine dp [] [] (.agg [I (e5.Clause), I (e5.Since), I (e5.Due), I (e5.Status)]) rfl (e_ld rfl rfl) rfl (rfl) (by decide) ?_
    obtain ⟨r6, hr6, h⟩ := bS h
    refine dp [] [] (B (r6)) rfl (e_callV rfl rfl (call_q rfl rfl rfl (avS (shP rfl) (avS (shP rfl) (avN))) (laws_eqDuty_F hr6) rfl rfl rfl)) rfl (w_call rfl rfl rfl rfl (avS (shP rfl) (avS (shP rfl) (avN))) (laws_eqDuty_F hr6) rfl) (by decide) ?_
    refine dp [] [] (B ((!r6))) rfl (e_un rfl rfl) rfl (rfl) (by decide) ?_
    refine de 225 rfl rfl ?_
    refine s_cond rfl rfl (fun hb => ?_) (fun hb => ?_)
    · replace h := cT hb h
      refine s_seq rfl ?_
      refine s_reg rfl ?_
      refine o 241 (B (false)) rfl rfl (e_assign rfl) ?_
      refine s_ops ?_
      exact s_ret rfl (hr _ (Option.some.inj h).symm _ (fin (vs := [B (false)]) rfl (absE (absorb_plain rfl) (absEN)) rfl rfl))
    · replace h := cF hb h
      refine s_skip rfl ?_
      refine s_blk ?_
      refine s_reg rfl ?_
      refine o 241 (I (x3)) rfl rfl (e_move rfl) ?_
      refine o 257 (I ((w64 (x3 + 1)))) rfl rfl (e_bin rfl rfl rfl) ?_
      refine o 273 (I ((w64 (x3 + 1)))) rfl rfl (e_assign rfl) ?_
      refine s_ops ?_
      refine s_lp ?_
      refine run_forget [0, 1, 5] [] [] rfl rfl rfl rfl ?_
      exact ih _ _ h hr hn
  · replace h := cF hb h
    refine s_exit rfl rfl ?_
    refine run_forget [] [] [] rfl rfl rfl hK ?_
    exact hn _ (Option.some.inj h).symm
theorem laws_eqDutyS_run (a_1 : List Duty) (b_2 : List Duty) (r : Bool) (h : laws_eqDutyS a_1 b_2 = some r) : Run laws_eqDutyS_E 0 (laws_eqDutyS_Q a_1 b_2 r) [.code laws_eqDutyS_c] (enter Try.f29 [.isl false ((a_1).map enc_Duty), .isl false ((b_2).map enc_Duty)]).2 := by
  refine run_at (enter_eq (ys := [.isl false ((a_1).map enc_Duty), .isl false ((b_2).map enc_Duty)]) (R := []) (n := 27) (l := [(0, .isl false ((a_1).map enc_Duty)), (1, .isl false ((b_2).map enc_Duty))]) (nx := 1) rfl rfl rfl) ?_
  unfold laws_eqDutyS at h
  refine s_seq rfl ?_
  refine s_reg rfl ?_
  refine o 17 (B (false)) rfl rfl (e_assign rfl) ?_
  refine s_ops ?_
  refine s_seq rfl ?_
  refine s_seq rfl ?_
  refine s_reg rfl ?_
  refine o 33 (.isl false ((a_1).map enc_Duty)) rfl rfl (e_move rfl) ?_
  refine o 49 (I ((len a_1))) rfl rfl (e_len rfl rfl rfl (l_isl rfl)) ?_
  refine o 65 (.isl false ((b_2).map enc_Duty)) rfl rfl (e_move rfl) ?_
  refine o 81 (I ((len b_2))) rfl rfl (e_len rfl rfl rfl (l_isl rfl)) ?_
  refine o 97 (B (((len a_1) != (len b_2)))) rfl rfl (e_bin rfl rfl rfl) ?_
  refine s_ops ?_
  refine s_cond rfl rfl (fun hb => ?_) (fun hb => ?_)
  · replace h := cT hb h
    refine s_seq rfl ?_
    refine s_reg rfl ?_
    refine o 113 (B (false)) rfl rfl (e_assign rfl) ?_
    refine s_ops ?_
    obtain rfl := Option.some.inj h
    exact s_ret rfl (fin (vs := [B (false)]) rfl (absE (absorb_plain rfl) (absEN)) rfl rfl)
  · replace h := cF hb h
    refine s_skip rfl ?_
    refine s_seq rfl ?_
    refine s_seq rfl ?_
    refine s_reg rfl ?_
    refine o 113 (I (0)) rfl rfl (e_assign rfl) ?_
    refine s_ops ?_
    refine s_block rfl ?_
    obtain ⟨y7, hy7, hy71, hy72⟩ := bJ h
    refine s_loop rfl ?_
    refine run_forget [0, 1, 5] [] [] rfl rfl rfl rfl ?_
    refine laws_eqDutyS_la_run a_1 b_2 rfl hy7 (fun r' e st hq => by rw [hy71 r' e] at hq; exact hq) (fun u7 hu => ?_)
    replace h := hy72 u7 hu
    refine s_seq rfl ?_
    refine s_reg rfl ?_
    refine o 17 (B (true)) rfl rfl (e_assign rfl) ?_
    refine s_ops ?_
    obtain rfl := Option.some.inj h
    exact s_ret rfl (fin (vs := [B (true)]) rfl (absE (absorb_plain rfl) (absEN)) rfl rfl)
noncomputable def laws_eqDutyS_ent : Ent := ⟨[false, false], entF2 (decS enc_Duty) (decS enc_Duty) fun a_1 b_2 => (laws_eqDutyS a_1 b_2).map fun r => (B (r), [])⟩
theorem laws_eqDutyS_F {a_1 : List Duty} {b_2 : List Duty} {r : Bool} (h : laws_eqDutyS a_1 b_2 = some r) : laws_eqDutyS_ent.F [.isl false ((a_1).map enc_Duty), .isl false ((b_2).map enc_Duty)] = some (B (r), []) := by
  have e : laws_eqDutyS_ent.F [.isl false ((a_1).map enc_Duty), .isl false ((b_2).map enc_Duty)] = (laws_eqDutyS a_1 b_2).map fun r => (B (r), []) := by
    simp only [laws_eqDutyS_ent, entF2, decS, dec_ok (isl_inj enc_Duty_inj), dec_ok (isl_inj enc_Duty_inj), Option.bind_some]
  refine Eq.trans ?_ ((congrArg (Option.map fun r => ((B (r) : V), ([] : List V))) h))
  exact e
theorem laws_eqDutyS_good {G : Ground} (g35 : Good Try.prog G 35 laws_eqDuty_ent) : Good Try.prog G 29 laws_eqDutyS_ent := by
  refine good_of_run (E := laws_eqDutyS_E) (fnOf_good (by
    intro p hp
    simp only [List.mem_cons, List.not_mem_nil, or_false] at hp
    rcases hp with rfl
    · exact g35)) agree_mk (Checked.mixed Try.checked) Try.func29 (c := laws_eqDutyS_c) (n := 2) ⟨rfl, rfl, by decide⟩ ?_
  intro vs r os h
  obtain ⟨v0, v1, a_1, b_2, rfl, q0, q1, h9⟩ := entI2 h
  obtain rfl := dec_of q0
  obtain rfl := dec_of q1
  obtain ⟨r1, hr1, he⟩ := Option.map_eq_some_iff.1 h9
  cases he
  exact ⟨rfl, laws_eqDutyS_run a_1 b_2 r1 hr1⟩
noncomputable def laws_eqIntS_c : Code := bodyOf Try.f30
noncomputable def laws_eqIntS_E : Env := mkE Try.prog []
def laws_eqIntS_Q (a_1 : List Int) (b_2 : List Int) (r : Bool) (st : St) : Prop := finish laws_eqIntS_E Try.f30 [false, false] (enter Try.f30 [.isl false ((a_1).map I), .isl false ((b_2).map I)]).1 st = some (B (r), [])
theorem laws_eqIntS_la_run (a_1 : List Int) (b_2 : List Int)  {Q : St → Prop} {K : List It} (hK : noD K = true) {x3 : Int} {y : Bool ⊕ Unit} (h : laws_eqIntS_la a_1 b_2 x3 = some y) : (∀ r', y = .inl r' → ∀ st, laws_eqIntS_Q a_1 b_2 r' st → Q st) → (∀ u : Unit, y = .inr u → Run laws_eqIntS_E 0 Q K ⟨mkTm .dead 26 [], mkS (rtL [] 1), 1⟩) → Run laws_eqIntS_E 0 Q (.code (cL (cL (cR (cL (cR (cR laws_eqIntS_c)))))) :: .lp (cL (cL (cR (cL (cR (cR laws_eqIntS_c)))))) :: .blk 0 :: K) ⟨mkTm .dead 26 [(0, .isl false ((a_1).map I)), (1, .isl false ((b_2).map I)), (5, I (x3))], mkS (rtL [] 1), 1⟩ := by
  refine fix_ind (P := fun (x3 : Int) (y : Bool ⊕ Unit) => (∀ r', y = .inl r' → ∀ st, laws_eqIntS_Q a_1 b_2 r' st → Q st) → (∀ u : Unit, y = .inr u → Run laws_eqIntS_E 0 Q K ⟨mkTm .dead 26 [], mkS (rtL [] 1), 1⟩) → Run laws_eqIntS_E 0 Q (.code (cL (cL (cR (cL (cR (cR laws_eqIntS_c)))))) :: .lp (cL (cL (cR (cL (cR (cR laws_eqIntS_c)))))) :: .blk 0 :: K) ⟨mkTm .dead 26 [(0, .isl false ((a_1).map I)), (1, .isl false ((b_2).map I)), (5, I (x3))], mkS (rtL [] 1), 1⟩) (laws_eqIntS_la_fin a_1 b_2) ?_ h
  clear h y x3
  intro self ih x3 y h hr hn
  unfold laws_eqIntS_la_F at h
  refine s_seq rfl ?_
  refine s_seq rfl ?_
  refine s_reg rfl ?_
  refine o 17 (I (x3)) rfl rfl (e_move rfl) ?_
  refine o 33 (.isl false ((a_1).map I)) rfl rfl (e_move rfl) ?_
  refine o 49 (I ((len a_1))) rfl rfl (e_len rfl rfl rfl (l_isl rfl)) ?_
  refine o 65 (B ((decide (x3 < (len a_1))))) rfl rfl (e_bin rfl rfl rfl) ?_
  refine s_ops ?_
  refine s_cond rfl rfl (fun hb => ?_) (fun hb => ?_)
  · replace h := cT hb h
    refine s_skip rfl ?_
    refine s_seq rfl ?_
    refine s_block rfl ?_
    refine s_seq rfl ?_
    refine s_draw [0, 0, 3, 7, 0, 0, 48, 112, 255] rfl (by decide +kernel) ?_
    refine dp [] [] (.isl false ((a_1).map I)) rfl (e_move rfl) rfl (rfl) (by decide) ?_
    refine dp [] [] (I (x3)) rfl (e_move rfl) rfl (rfl) (by decide) ?_
    obtain ⟨e4, he4, h⟩ := bS h
    refine dp [] [] (.iptr (I (e4)) 0) rfl (e_indexAddr rfl rfl rfl (ix_islE rfl rfl rfl rfl he4)) rfl (rfl) (by decide) ?_
    refine dp [] [] (I (e4)) rfl (e_ld rfl rfl) rfl (rfl) (by decide) ?_
    refine dp [] [] (.isl false ((b_2).map I)) rfl (e_move rfl) rfl (rfl) (by decide) ?_
    refine dp [] [] (I (x3)) rfl (e_move rfl) rfl (rfl) (by decide) ?_
    obtain ⟨e5, he5, h⟩ := bS h
    refine dp [] [] (.iptr (I (e5)) 0) rfl (e_indexAddr rfl rfl rfl (ix_islE rfl rfl rfl rfl he5)) rfl (rfl) (by decide) ?_
    refine dp [] [] (I (e5)) rfl (e_ld rfl rfl) rfl (rfl) (by decide) ?_
    refine dp [] [] (B ((e4 != e5))) rfl (e_bin rfl rfl rfl) rfl (rfl) (by decide) ?_
    refine de 209 rfl rfl ?_
    refine s_cond rfl rfl (fun hb => ?_) (fun hb => ?_)
    · replace h := cT hb h
      refine s_seq rfl ?_
      refine s_reg rfl ?_
      refine o 225 (B (false)) rfl rfl (e_assign rfl) ?_
      refine s_ops ?_
      exact s_ret rfl (hr _ (Option.some.inj h).symm _ (fin (vs := [B (false)]) rfl (absE (absorb_plain rfl) (absEN)) rfl rfl))
    · replace h := cF hb h
      refine s_skip rfl ?_
      refine s_blk ?_
      refine s_reg rfl ?_
      refine o 225 (I (x3)) rfl rfl (e_move rfl) ?_
      refine o 241 (I ((w64 (x3 + 1)))) rfl rfl (e_bin rfl rfl rfl) ?_
      refine o 257 (I ((w64 (x3 + 1)))) rfl rfl (e_assign rfl) ?_
      refine s_ops ?_
      refine s_lp ?_
      refine run_forget [0, 1, 5] [] [] rfl rfl rfl rfl ?_
      exact ih _ _ h hr hn
  · replace h := cF hb h
    refine s_exit rfl rfl ?_
    refine run_forget [] [] [] rfl rfl rfl hK ?_
    exact hn _ (Option.some.inj h).symm
theorem laws_eqIntS_run (a_1 : List Int) (b_2 : List Int) (r : Bool) (h : laws_eqIntS a_1 b_2 = some r) : Run laws_eqIntS_E 0 (laws_eqIntS_Q a_1 b_2 r) [.code laws_eqIntS_c] (enter Try.f30 [.isl false ((a_1).map I), .isl false ((b_2).map I)]).2 := by
  refine run_at (enter_eq (ys := [.isl false ((a_1).map I), .isl false ((b_2).map I)]) (R := []) (n := 26) (l := [(0, .isl false ((a_1).map I)), (1, .isl false ((b_2).map I))]) (nx := 1) rfl rfl rfl) ?_
  unfold laws_eqIntS at h
  refine s_seq rfl ?_
  refine s_reg rfl ?_
  refine o 17 (B (false)) rfl rfl (e_assign rfl) ?_
  refine s_ops ?_
  refine s_seq rfl ?_
  refine s_seq rfl ?_
  refine s_reg rfl ?_
  refine o 33 (.isl false ((a_1).map I)) rfl rfl (e_move rfl) ?_
  refine o 49 (I ((len a_1))) rfl rfl (e_len rfl rfl rfl (l_isl rfl)) ?_
  refine o 65 (.isl false ((b_2).map I)) rfl rfl (e_move rfl) ?_
  refine o 81 (I ((len b_2))) rfl rfl (e_len rfl rfl rfl (l_isl rfl)) ?_
  refine o 97 (B (((len a_1) != (len b_2)))) rfl rfl (e_bin rfl rfl rfl) ?_
  refine s_ops ?_
  refine s_cond rfl rfl (fun hb => ?_) (fun hb => ?_)
  · replace h := cT hb h
    refine s_seq rfl ?_
    refine s_reg rfl ?_
    refine o 113 (B (false)) rfl rfl (e_assign rfl) ?_
    refine s_ops ?_
    obtain rfl := Option.some.inj h
    exact s_ret rfl (fin (vs := [B (false)]) rfl (absE (absorb_plain rfl) (absEN)) rfl rfl)
  · replace h := cF hb h
    refine s_skip rfl ?_
    refine s_seq rfl ?_
    refine s_seq rfl ?_
    refine s_reg rfl ?_
    refine o 113 (I (0)) rfl rfl (e_assign rfl) ?_
    refine s_ops ?_
    refine s_block rfl ?_
    obtain ⟨y6, hy6, hy61, hy62⟩ := bJ h
    refine s_loop rfl ?_
    refine run_forget [0, 1, 5] [] [] rfl rfl rfl rfl ?_
    refine laws_eqIntS_la_run a_1 b_2 rfl hy6 (fun r' e st hq => by rw [hy61 r' e] at hq; exact hq) (fun u6 hu => ?_)
    replace h := hy62 u6 hu
    refine s_seq rfl ?_
    refine s_reg rfl ?_
    refine o 17 (B (true)) rfl rfl (e_assign rfl) ?_
    refine s_ops ?_
    obtain rfl := Option.some.inj h
    exact s_ret rfl (fin (vs := [B (true)]) rfl (absE (absorb_plain rfl) (absEN)) rfl rfl)
noncomputable def laws_eqIntS_ent : Ent := ⟨[false, false], entF2 (decS I) (decS I) fun a_1 b_2 => (laws_eqIntS a_1 b_2).map fun r => (B (r), [])⟩
theorem laws_eqIntS_F {a_1 : List Int} {b_2 : List Int} {r : Bool} (h : laws_eqIntS a_1 b_2 = some r) : laws_eqIntS_ent.F [.isl false ((a_1).map I), .isl false ((b_2).map I)] = some (B (r), []) := by
  have e : laws_eqIntS_ent.F [.isl false ((a_1).map I), .isl false ((b_2).map I)] = (laws_eqIntS a_1 b_2).map fun r => (B (r), []) := by
    simp only [laws_eqIntS_ent, entF2, decS, dec_ok (isl_inj I_inj), dec_ok (isl_inj I_inj), Option.bind_some]
  refine Eq.trans ?_ ((congrArg (Option.map fun r => ((B (r) : V), ([] : List V))) h))
  exact e
theorem laws_eqIntS_good {G : Ground} : Good Try.prog G 30 laws_eqIntS_ent := by
  refine good_of_run (E := laws_eqIntS_E) (fnOf_good (by simp)) agree_mk (Checked.mixed Try.checked) Try.func30 (c := laws_eqIntS_c) (n := 2) ⟨rfl, rfl, by decide⟩ ?_
  intro vs r os h
  obtain ⟨v0, v1, a_1, b_2, rfl, q0, q1, h9⟩ := entI2 h
  obtain rfl := dec_of q0
  obtain rfl := dec_of q1
  obtain ⟨r1, hr1, he⟩ := Option.map_eq_some_iff.1 h9
  cases he
  exact ⟨rfl, laws_eqIntS_run a_1 b_2 r1 hr1⟩
noncomputable def laws_eqState_c : Code := bodyOf Try.f13
noncomputable def laws_eqState_E : Env := mkE Try.prog [(28, laws_eqStringS_ent), (29, laws_eqDutyS_ent), (30, laws_eqIntS_ent)]
def laws_eqState_Q (a_1 : State) (b_2 : State) (r : Bool) (st : St) : Prop := finish laws_eqState_E Try.f13 [false, false] (enter Try.f13 [.agg [I (a_1.Day), .isl false ((a_1.Facts).map str), .isl false ((a_1.Duties).map enc_Duty), .isl false ((a_1.Balances).map I), B (a_1.Over)], .agg [I (b_2.Day), .isl false ((b_2.Facts).map str), .isl false ((b_2.Duties).map enc_Duty), .isl false ((b_2.Balances).map I), B (b_2.Over)]]).1 st = some (B (r), [])
theorem laws_eqState_run (a_1 : State) (b_2 : State) (r : Bool) (h : laws_eqState a_1 b_2 = some r) : Run laws_eqState_E 0 (laws_eqState_Q a_1 b_2 r) [.code laws_eqState_c] (enter Try.f13 [.agg [I (a_1.Day), .isl false ((a_1.Facts).map str), .isl false ((a_1.Duties).map enc_Duty), .isl false ((a_1.Balances).map I), B (a_1.Over)], .agg [I (b_2.Day), .isl false ((b_2.Facts).map str), .isl false ((b_2.Duties).map enc_Duty), .isl false ((b_2.Balances).map I), B (b_2.Over)]]).2 := by
  refine run_at (enter_eq (ys := [.agg [I (a_1.Day), .isl false ((a_1.Facts).map str), .isl false ((a_1.Duties).map enc_Duty), .isl false ((a_1.Balances).map I), B (a_1.Over)], .agg [I (b_2.Day), .isl false ((b_2.Facts).map str), .isl false ((b_2.Duties).map enc_Duty), .isl false ((b_2.Balances).map I), B (b_2.Over)]]) (R := []) (n := 33) (l := [(0, .agg [I (a_1.Day), .isl false ((a_1.Facts).map str), .isl false ((a_1.Duties).map enc_Duty), .isl false ((a_1.Balances).map I), B (a_1.Over)]), (1, .agg [I (b_2.Day), .isl false ((b_2.Facts).map str), .isl false ((b_2.Duties).map enc_Duty), .isl false ((b_2.Balances).map I), B (b_2.Over)])]) (nx := 1) rfl rfl rfl) ?_
  unfold laws_eqState at h
  refine s_seq rfl ?_
  refine s_reg rfl ?_
  refine o 17 (.hp 1 0 [] 5 0 0) rfl rfl (e_boxP rfl rfl rfl) ?_
  refine o 33 (.hp 17 0 [] 5 0 0) rfl rfl (e_boxP rfl rfl rfl) ?_
  refine o 49 (B (false)) rfl rfl (e_assign rfl) ?_
  refine s_ops ?_
  refine s_seq rfl ?_
  refine s_seq rfl ?_
  refine s_reg rfl ?_
  refine o 65 (.hp 1 0 [] 5 0 0) rfl rfl (e_fieldAddr rfl rfl rfl) ?_
  refine o 81 (I (a_1.Day)) rfl rfl (e_ld rfl rfl) ?_
  refine o 97 (.hp 17 0 [] 5 0 0) rfl rfl (e_fieldAddr rfl rfl rfl) ?_
  refine o 113 (I (b_2.Day)) rfl rfl (e_ld rfl rfl) ?_
  refine o 129 (B ((a_1.Day != b_2.Day))) rfl rfl (e_bin rfl rfl rfl) ?_
  refine s_ops ?_
  refine s_cond rfl rfl (fun hb => ?_) (fun hb => ?_)
  · replace h := cT hb h
    refine s_seq rfl ?_
    refine s_reg rfl ?_
    refine o 145 (B (false)) rfl rfl (e_assign rfl) ?_
    refine s_ops ?_
    obtain rfl := Option.some.inj h
    exact s_ret rfl (fin (vs := [B (false)]) rfl (absE (absorb_plain rfl) (absEN)) rfl rfl)
  · replace h := cF hb h
    refine s_skip rfl ?_
    refine s_seq rfl ?_
    refine s_seq rfl ?_
    refine s_reg rfl ?_
    refine o 145 (.hp 1 0 [] 5 0 1) rfl rfl (e_fieldAddr rfl rfl rfl) ?_
    refine o 161 (.isl false ((a_1.Facts).map str)) rfl rfl (e_ld rfl rfl) ?_
    refine o 177 (.hp 17 0 [] 5 0 1) rfl rfl (e_fieldAddr rfl rfl rfl) ?_
    refine o 193 (.isl false ((b_2.Facts).map str)) rfl rfl (e_ld rfl rfl) ?_
    obtain ⟨r3, hr3, h⟩ := bS h
    refine o 209 (B (r3)) rfl rfl (e_callV rfl rfl (call_q rfl rfl rfl (avS (shP rfl) (avS (shP rfl) (avN))) (laws_eqStringS_F hr3) rfl rfl rfl)) ?_
    refine o 225 (B ((!r3))) rfl rfl (e_un rfl rfl) ?_
    refine s_ops ?_
    refine s_cond rfl rfl (fun hb => ?_) (fun hb => ?_)
    · replace h := cT hb h
      refine s_seq rfl ?_
      refine s_reg rfl ?_
      refine o 241 (B (false)) rfl rfl (e_assign rfl) ?_
      refine s_ops ?_
      obtain rfl := Option.some.inj h
      exact s_ret rfl (fin (vs := [B (false)]) rfl (absE (absorb_plain rfl) (absEN)) rfl rfl)
    · replace h := cF hb h
      refine s_skip rfl ?_
      refine s_seq rfl ?_
      refine s_seq rfl ?_
      refine s_reg rfl ?_
      refine o 241 (.hp 1 0 [] 5 0 2) rfl rfl (e_fieldAddr rfl rfl rfl) ?_
      refine o 257 (.isl false ((a_1.Duties).map enc_Duty)) rfl rfl (e_ld rfl rfl) ?_
      refine o 273 (.hp 17 0 [] 5 0 2) rfl rfl (e_fieldAddr rfl rfl rfl) ?_
      refine o 289 (.isl false ((b_2.Duties).map enc_Duty)) rfl rfl (e_ld rfl rfl) ?_
      obtain ⟨r4, hr4, h⟩ := bS h
      refine o 305 (B (r4)) rfl rfl (e_callV rfl rfl (call_q rfl rfl rfl (avS (shP rfl) (avS (shP rfl) (avN))) (laws_eqDutyS_F hr4) rfl rfl rfl)) ?_
      refine o 321 (B ((!r4))) rfl rfl (e_un rfl rfl) ?_
      refine s_ops ?_
      refine s_cond rfl rfl (fun hb => ?_) (fun hb => ?_)
      · replace h := cT hb h
        refine s_seq rfl ?_
        refine s_reg rfl ?_
        refine o 337 (B (false)) rfl rfl (e_assign rfl) ?_
        refine s_ops ?_
        obtain rfl := Option.some.inj h
        exact s_ret rfl (fin (vs := [B (false)]) rfl (absE (absorb_plain rfl) (absEN)) rfl rfl)
      · replace h := cF hb h
        refine s_skip rfl ?_
        refine s_seq rfl ?_
        refine s_seq rfl ?_
        refine s_reg rfl ?_
        refine o 337 (.hp 1 0 [] 5 0 3) rfl rfl (e_fieldAddr rfl rfl rfl) ?_
        refine o 353 (.isl false ((a_1.Balances).map I)) rfl rfl (e_ld rfl rfl) ?_
        refine o 369 (.hp 17 0 [] 5 0 3) rfl rfl (e_fieldAddr rfl rfl rfl) ?_
        refine o 385 (.isl false ((b_2.Balances).map I)) rfl rfl (e_ld rfl rfl) ?_
        obtain ⟨r5, hr5, h⟩ := bS h
        refine o 401 (B (r5)) rfl rfl (e_callV rfl rfl (call_q rfl rfl rfl (avS (shP rfl) (avS (shP rfl) (avN))) (laws_eqIntS_F hr5) rfl rfl rfl)) ?_
        refine o 417 (B ((!r5))) rfl rfl (e_un rfl rfl) ?_
        refine s_ops ?_
        refine s_cond rfl rfl (fun hb => ?_) (fun hb => ?_)
        · replace h := cT hb h
          refine s_seq rfl ?_
          refine s_reg rfl ?_
          refine o 433 (B (false)) rfl rfl (e_assign rfl) ?_
          refine s_ops ?_
          obtain rfl := Option.some.inj h
          exact s_ret rfl (fin (vs := [B (false)]) rfl (absE (absorb_plain rfl) (absEN)) rfl rfl)
        · replace h := cF hb h
          refine s_skip rfl ?_
          refine s_seq rfl ?_
          refine s_seq rfl ?_
          refine s_reg rfl ?_
          refine o 433 (.hp 1 0 [] 5 0 4) rfl rfl (e_fieldAddr rfl rfl rfl) ?_
          refine o 449 (B (a_1.Over)) rfl rfl (e_ld rfl rfl) ?_
          refine o 465 (.hp 17 0 [] 5 0 4) rfl rfl (e_fieldAddr rfl rfl rfl) ?_
          refine o 481 (B (b_2.Over)) rfl rfl (e_ld rfl rfl) ?_
          refine o 497 (B ((!(a_1.Over == b_2.Over)))) rfl rfl (e_bin rfl rfl rfl) ?_
          refine s_ops ?_
          refine s_cond rfl rfl (fun hb => ?_) (fun hb => ?_)
          · replace h := cT hb h
            refine s_seq rfl ?_
            refine s_reg rfl ?_
            refine o 513 (B (false)) rfl rfl (e_assign rfl) ?_
            refine s_ops ?_
            obtain rfl := Option.some.inj h
            exact s_ret rfl (fin (vs := [B (false)]) rfl (absE (absorb_plain rfl) (absEN)) rfl rfl)
          · replace h := cF hb h
            refine s_skip rfl ?_
            refine s_seq rfl ?_
            refine s_reg rfl ?_
            refine o 513 (B (true)) rfl rfl (e_assign rfl) ?_
            refine s_ops ?_
            obtain rfl := Option.some.inj h
            exact s_ret rfl (fin (vs := [B (true)]) rfl (absE (absorb_plain rfl) (absEN)) rfl rfl)
noncomputable def laws_eqState_ent : Ent := ⟨[false, false], entF2 (decBy encI_State) (decBy encI_State) fun a_1 b_2 => (laws_eqState a_1 b_2).map fun r => (B (r), [])⟩
theorem laws_eqState_F {a_1 : State} {b_2 : State} {r : Bool} (h : laws_eqState a_1 b_2 = some r) : laws_eqState_ent.F [.agg [I (a_1.Day), .isl false ((a_1.Facts).map str), .isl false ((a_1.Duties).map enc_Duty), .isl false ((a_1.Balances).map I), B (a_1.Over)], .agg [I (b_2.Day), .isl false ((b_2.Facts).map str), .isl false ((b_2.Duties).map enc_Duty), .isl false ((b_2.Balances).map I), B (b_2.Over)]] = some (B (r), []) := by
  have e : laws_eqState_ent.F [encI_State a_1, encI_State b_2] = (laws_eqState a_1 b_2).map fun r => (B (r), []) := by
    simp only [laws_eqState_ent, entF2, decS, dec_ok encI_State_inj, dec_ok encI_State_inj, Option.bind_some]
  refine Eq.trans ?_ ((congrArg (Option.map fun r => ((B (r) : V), ([] : List V))) h))
  exact e
theorem laws_eqState_good {G : Ground} (g28 : Good Try.prog G 28 laws_eqStringS_ent) (g29 : Good Try.prog G 29 laws_eqDutyS_ent) (g30 : Good Try.prog G 30 laws_eqIntS_ent) : Good Try.prog G 13 laws_eqState_ent := by
  refine good_of_run (E := laws_eqState_E) (fnOf_good (by
    intro p hp
    simp only [List.mem_cons, List.not_mem_nil, or_false] at hp
    rcases hp with rfl | rfl | rfl
    · exact g28
    · exact g29
    · exact g30)) agree_mk (Checked.mixed Try.checked) Try.func13 (c := laws_eqState_c) (n := 2) ⟨rfl, rfl, by decide⟩ ?_
  intro vs r os h
  obtain ⟨v0, v1, a_1, b_2, rfl, q0, q1, h9⟩ := entI2 h
  obtain rfl := dec_of q0
  obtain rfl := dec_of q1
  obtain ⟨r1, hr1, he⟩ := Option.map_eq_some_iff.1 h9
  cases he
  exact ⟨rfl, laws_eqState_run a_1 b_2 r1 hr1⟩
noncomputable def laws_FnExactEqualStates_c : Code := bodyOf Try.f4
noncomputable def laws_FnExactEqualStates_E : Env := mkE Try.prog [(9, laws_szState_ent), (11, laws_toState_ent), (10, spec_EqualStates_ent), (12, impl_EqualStates_ent), (13, laws_eqState_ent)]
def laws_FnExactEqualStates_Q (aA_1 : State) (aB_2 : State) (r : Bool) (st : St) : Prop := finish laws_FnExactEqualStates_E Try.f4 [false, false] (enter Try.f4 [.agg [I (aA_1.Day), .isl false ((aA_1.Facts).map str), .isl false ((aA_1.Duties).map enc_Duty), .isl false ((aA_1.Balances).map I), B (aA_1.Over)], .agg [I (aB_2.Day), .isl false ((aB_2.Facts).map str), .isl false ((aB_2.Duties).map enc_Duty), .isl false ((aB_2.Balances).map I), B (aB_2.Over)]]).1 st = some (B (r), [])
theorem laws_FnExactEqualStates_run (aA_1 : State) (aB_2 : State) (r : Bool) (h : laws_FnExactEqualStates aA_1 aB_2 = some r) : Run laws_FnExactEqualStates_E 0 (laws_FnExactEqualStates_Q aA_1 aB_2 r) [.code laws_FnExactEqualStates_c] (enter Try.f4 [.agg [I (aA_1.Day), .isl false ((aA_1.Facts).map str), .isl false ((aA_1.Duties).map enc_Duty), .isl false ((aA_1.Balances).map I), B (aA_1.Over)], .agg [I (aB_2.Day), .isl false ((aB_2.Facts).map str), .isl false ((aB_2.Duties).map enc_Duty), .isl false ((aB_2.Balances).map I), B (aB_2.Over)]]).2 := by
  refine run_at (enter_eq (ys := [.agg [I (aA_1.Day), .isl false ((aA_1.Facts).map str), .isl false ((aA_1.Duties).map enc_Duty), .isl false ((aA_1.Balances).map I), B (aA_1.Over)], .agg [I (aB_2.Day), .isl false ((aB_2.Facts).map str), .isl false ((aB_2.Duties).map enc_Duty), .isl false ((aB_2.Balances).map I), B (aB_2.Over)]]) (R := []) (n := 45) (l := [(0, .agg [I (aA_1.Day), .isl false ((aA_1.Facts).map str), .isl false ((aA_1.Duties).map enc_Duty), .isl false ((aA_1.Balances).map I), B (aA_1.Over)]), (1, .agg [I (aB_2.Day), .isl false ((aB_2.Facts).map str), .isl false ((aB_2.Duties).map enc_Duty), .isl false ((aB_2.Balances).map I), B (aB_2.Over)])]) (nx := 1) rfl rfl rfl) ?_
  unfold laws_FnExactEqualStates at h
  refine s_seq rfl ?_
  refine s_reg rfl ?_
  refine o 17 (.hp 1 0 [] 5 0 0) rfl rfl (e_boxP rfl rfl rfl) ?_
  refine o 33 (.hp 17 0 [] 5 0 0) rfl rfl (e_boxP rfl rfl rfl) ?_
  refine o 49 (B (false)) rfl rfl (e_assign rfl) ?_
  refine s_ops ?_
  refine s_seq rfl ?_
  refine s_reg rfl ?_
  refine o 65 (I (1048576)) rfl rfl (e_assign rfl) ?_
  refine s_ops ?_
  refine s_seq rfl ?_
  refine s_reg rfl ?_
  refine o 81 (.agg [I (aA_1.Day), .isl false ((aA_1.Facts).map str), .isl false ((aA_1.Duties).map enc_Duty), .isl false ((aA_1.Balances).map I), B (aA_1.Over)]) rfl rfl (e_ld rfl rfl) ?_
  refine o 97 (I (1048576)) rfl rfl (e_move rfl) ?_
  obtain ⟨r3, hr3, h⟩ := bS h
  refine o 113 (I (r3)) rfl rfl (e_callV rfl rfl (call_q rfl rfl rfl (avS (shP rfl) (avS (shP rfl) (avN))) (laws_szState_F hr3) rfl rfl rfl)) ?_
  refine o 129 (I (r3)) rfl rfl (e_assign rfl) ?_
  refine s_ops ?_
  refine s_seq rfl ?_
  refine s_seq rfl ?_
  refine s_reg rfl ?_
  refine o 145 (I (r3)) rfl rfl (e_move rfl) ?_
  refine o 161 (B ((decide (r3 < 0)))) rfl rfl (e_bin rfl rfl rfl) ?_
  refine s_ops ?_
  refine s_cond rfl rfl (fun hb => ?_) (fun hb => ?_)
  · replace h := cT hb h
    refine s_seq rfl ?_
    refine s_reg rfl ?_
    refine o 177 (B (true)) rfl rfl (e_assign rfl) ?_
    refine s_ops ?_
    obtain rfl := Option.some.inj h
    exact s_ret rfl (fin (vs := [B (true)]) rfl (absE (absorb_plain rfl) (absEN)) rfl rfl)
  · replace h := cF hb h
    refine s_skip rfl ?_
    refine s_seq rfl ?_
    refine s_reg rfl ?_
    refine o 177 (.agg [I (aB_2.Day), .isl false ((aB_2.Facts).map str), .isl false ((aB_2.Duties).map enc_Duty), .isl false ((aB_2.Balances).map I), B (aB_2.Over)]) rfl rfl (e_ld rfl rfl) ?_
    refine o 193 (I (r3)) rfl rfl (e_move rfl) ?_
    obtain ⟨r4, hr4, h⟩ := bS h
    refine o 209 (I (r4)) rfl rfl (e_callV rfl rfl (call_q rfl rfl rfl (avS (shP rfl) (avS (shP rfl) (avN))) (laws_szState_F hr4) rfl rfl rfl)) ?_
    refine o 225 (I (r4)) rfl rfl (e_assign rfl) ?_
    refine s_ops ?_
    refine s_seq rfl ?_
    refine s_seq rfl ?_
    refine s_reg rfl ?_
    refine o 241 (I (r4)) rfl rfl (e_move rfl) ?_
    refine o 257 (B ((decide (r4 < 0)))) rfl rfl (e_bin rfl rfl rfl) ?_
    refine s_ops ?_
    refine s_cond rfl rfl (fun hb => ?_) (fun hb => ?_)
    · replace h := cT hb h
      refine s_seq rfl ?_
      refine s_reg rfl ?_
      refine o 273 (B (true)) rfl rfl (e_assign rfl) ?_
      refine s_ops ?_
      obtain rfl := Option.some.inj h
      exact s_ret rfl (fin (vs := [B (true)]) rfl (absE (absorb_plain rfl) (absEN)) rfl rfl)
    · replace h := cF hb h
      refine s_skip rfl ?_
      refine s_seq rfl ?_
      refine s_draw [0, 1, 0, 7, 15, 31] rfl (by decide +kernel) ?_
      refine dp [1] [] (.agg [I (aA_1.Day), .isl false ((aA_1.Facts).map str), .isl false ((aA_1.Duties).map enc_Duty), .isl false ((aA_1.Balances).map I), B (aA_1.Over)]) rfl (e_ld rfl rfl) rfl (rfl) (by decide) ?_
      obtain ⟨r5, hr5, h⟩ := bS h
      refine dp [] [] (.agg [I (r5.Day), .hs 273 0 [] 1 0 (r5.Facts).length, .hs 274 0 [] 4 0 (r5.Duties).length, .hs 275 0 [] 1 0 (r5.Balances).length, B (r5.Over)]) rfl (e_callV rfl rfl (call_R (ys := [.agg [I (r5.Day), .hs 273 0 [] 1 0 (r5.Facts).length, .hs 274 0 [] 4 0 (r5.Duties).length, .hs 275 0 [] 1 0 (r5.Balances).length, B (r5.Over)]]) (R := [(0, 1, ⟨0, 1, (r5.Facts).map str⟩), (0, 2, ⟨0, 4, (r5.Duties).map enc_Duty⟩), (0, 3, ⟨0, 1, (r5.Balances).map I⟩)]) rfl rfl rfl (avS (shP rfl) (avN)) (laws_toState_F hr5) (by simp [hasImm, hasImms, himm_map str_himm, himm_map enc_Duty_himm, himm_map I_himm]) (by simp [inst1s, inst1, instC, cells, comps]) rfl rfl)) rfl (w_call rfl rfl rfl rfl (avS (shP rfl) (avN)) (laws_toState_F hr5) (by simp [hasImm, hasImms, himm_map str_himm, himm_map enc_Duty_himm, himm_map I_himm])) (by decide) ?_
      refine dp [17] [] (.agg [I (aB_2.Day), .isl false ((aB_2.Facts).map str), .isl false ((aB_2.Duties).map enc_Duty), .isl false ((aB_2.Balances).map I), B (aB_2.Over)]) rfl (e_ld rfl rfl) rfl (rfl) (by decide) ?_
      obtain ⟨r6, hr6, h⟩ := bS h
      refine dp [] [] (.agg [I (r6.Day), .hs 305 0 [] 1 0 (r6.Facts).length, .hs 306 0 [] 4 0 (r6.Duties).length, .hs 307 0 [] 1 0 (r6.Balances).length, B (r6.Over)]) rfl (e_callV rfl rfl (call_R (ys := [.agg [I (r6.Day), .hs 305 0 [] 1 0 (r6.Facts).length, .hs 306 0 [] 4 0 (r6.Duties).length, .hs 307 0 [] 1 0 (r6.Balances).length, B (r6.Over)]]) (R := [(0, 1, ⟨0, 1, (r6.Facts).map str⟩), (0, 2, ⟨0, 4, (r6.Duties).map enc_Duty⟩), (0, 3, ⟨0, 1, (r6.Balances).map I⟩)]) rfl rfl rfl (avS (shP rfl) (avN)) (laws_toState_F hr6) (by simp [hasImm, hasImms, himm_map str_himm, himm_map enc_Duty_himm, himm_map I_himm]) (by simp [inst1s, inst1, instC, cells, comps]) rfl rfl)) rfl (w_call rfl rfl rfl rfl (avS (shP rfl) (avN)) (laws_toState_F hr6) (by simp [hasImm, hasImms, himm_map str_himm, himm_map enc_Duty_himm, himm_map I_himm])) (by decide) ?_
      obtain ⟨r7, hr7, h⟩ := bS h
      refine dp [273, 274, 275, 305, 306, 307] [] (B (r7)) rfl (e_callV rfl rfl (call_q rfl rfl rfl (avS (shA (shC (sh_p rfl) (shC (sh_hs (f := str) (g := str) (xs := r5.Facts) rfl rfl (imms_of str_imm)) (shC (sh_hs (f := enc_Duty) (g := enc_Duty) (xs := r5.Duties) rfl rfl (imms_of enc_Duty_imm)) (shC (sh_hs (f := I) (g := I) (xs := r5.Balances) rfl rfl (imms_of I_imm)) (shC (sh_p rfl) (shN))))))) (avS (shA (shC (sh_p rfl) (shC (sh_hs (f := str) (g := str) (xs := r6.Facts) rfl rfl (imms_of str_imm)) (shC (sh_hs (f := enc_Duty) (g := enc_Duty) (xs := r6.Duties) rfl rfl (imms_of enc_Duty_imm)) (shC (sh_hs (f := I) (g := I) (xs := r6.Balances) rfl rfl (imms_of I_imm)) (shC (sh_p rfl) (shN))))))) (avN))) (spec_EqualStates_F hr7) rfl rfl rfl)) rfl (w_call rfl rfl rfl rfl (avS (shA (shC (sh_p rfl) (shC (sh_hs (f := str) (g := str) (xs := r5.Facts) rfl rfl (imms_of str_imm)) (shC (sh_hs (f := enc_Duty) (g := enc_Duty) (xs := r5.Duties) rfl rfl (imms_of enc_Duty_imm)) (shC (sh_hs (f := I) (g := I) (xs := r5.Balances) rfl rfl (imms_of I_imm)) (shC (sh_p rfl) (shN))))))) (avS (shA (shC (sh_p rfl) (shC (sh_hs (f := str) (g := str) (xs := r6.Facts) rfl rfl (imms_of str_imm)) (shC (sh_hs (f := enc_Duty) (g := enc_Duty) (xs := r6.Duties) rfl rfl (imms_of enc_Duty_imm)) (shC (sh_hs (f := I) (g := I) (xs := r6.Balances) rfl rfl (imms_of I_imm)) (shC (sh_p rfl) (shN))))))) (avN))) (spec_EqualStates_F hr7) rfl) (by decide) ?_
      refine dp [] [] (B (r7)) rfl (e_assign rfl) rfl (rfl) (by decide) ?_
      refine de 353 rfl rfl ?_
      refine s_seq rfl ?_
      refine s_reg rfl ?_
      refine o 369 (.agg [I (aA_1.Day), .isl false ((aA_1.Facts).map str), .isl false ((aA_1.Duties).map enc_Duty), .isl false ((aA_1.Balances).map I), B (aA_1.Over)]) rfl rfl (e_ld rfl rfl) ?_
      obtain ⟨r8, hr8, h⟩ := bS h
      refine o 385 (.agg [I (r8.Day), .hs 369 0 [] 1 0 (r8.Facts).length, .hs 370 0 [] 4 0 (r8.Duties).length, .hs 371 0 [] 1 0 (r8.Balances).length, B (r8.Over)]) rfl rfl (e_callV rfl rfl (call_R (ys := [.agg [I (r8.Day), .hs 369 0 [] 1 0 (r8.Facts).length, .hs 370 0 [] 4 0 (r8.Duties).length, .hs 371 0 [] 1 0 (r8.Balances).length, B (r8.Over)]]) (R := [(0, 1, ⟨0, 1, (r8.Facts).map str⟩), (0, 2, ⟨0, 4, (r8.Duties).map enc_Duty⟩), (0, 3, ⟨0, 1, (r8.Balances).map I⟩)]) rfl rfl rfl (avS (shP rfl) (avN)) (laws_toState_F hr8) (by simp [hasImm, hasImms, himm_map str_himm, himm_map enc_Duty_himm, himm_map I_himm]) (by simp [inst1s, inst1, instC, cells, comps]) rfl rfl)) ?_
      refine o 401 (.hp 385 0 [] 5 0 0) rfl rfl (e_allocP (z := .agg [I (0), .isl true [], .isl true [], .isl true [], B (false)]) rfl rfl rfl) ?_
      refine o0 417 rfl rfl (e_st rfl rfl (st_at (path := []) (pl := false) (e' := .agg [I (r8.Day), .usl 1 ((r8.Facts).map str), .usl 4 ((r8.Duties).map enc_Duty), .usl 1 ((r8.Balances).map I), B (r8.Over)]) (es2' := [.agg [I (r8.Day), .usl 1 ((r8.Facts).map str), .usl 4 ((r8.Duties).map enc_Duty), .usl 1 ((r8.Balances).map I), B (r8.Over)]]) rfl (absA (absC (abs_p rfl) (absC (abs_hs rfl (List.length_map ..).symm) (absC (abs_hs rfl (List.length_map ..).symm) (absC (abs_hs rfl (List.length_map ..).symm) (absC (abs_p rfl) (absN))))))) rfl rfl rfl (ra_n) rfl rfl rfl rfl rfl (sr_n) 1 rfl)) ?_
      refine s_ops ?_
      refine s_seq rfl ?_
      refine s_reg rfl ?_
      refine o 433 (.agg [I (aB_2.Day), .isl false ((aB_2.Facts).map str), .isl false ((aB_2.Duties).map enc_Duty), .isl false ((aB_2.Balances).map I), B (aB_2.Over)]) rfl rfl (e_ld rfl rfl) ?_
      obtain ⟨r9, hr9, h⟩ := bS h
      refine o 449 (.agg [I (r9.Day), .hs 433 0 [] 1 0 (r9.Facts).length, .hs 434 0 [] 4 0 (r9.Duties).length, .hs 435 0 [] 1 0 (r9.Balances).length, B (r9.Over)]) rfl rfl (e_callV rfl rfl (call_R (ys := [.agg [I (r9.Day), .hs 433 0 [] 1 0 (r9.Facts).length, .hs 434 0 [] 4 0 (r9.Duties).length, .hs 435 0 [] 1 0 (r9.Balances).length, B (r9.Over)]]) (R := [(0, 1, ⟨0, 1, (r9.Facts).map str⟩), (0, 2, ⟨0, 4, (r9.Duties).map enc_Duty⟩), (0, 3, ⟨0, 1, (r9.Balances).map I⟩)]) rfl rfl rfl (avS (shP rfl) (avN)) (laws_toState_F hr9) (by simp [hasImm, hasImms, himm_map str_himm, himm_map enc_Duty_himm, himm_map I_himm]) (by simp [inst1s, inst1, instC, cells, comps]) rfl rfl)) ?_
      refine o 465 (.hp 449 0 [] 5 0 0) rfl rfl (e_allocP (z := .agg [I (0), .isl true [], .isl true [], .isl true [], B (false)]) rfl rfl rfl) ?_
      refine o0 481 rfl rfl (e_st rfl rfl (st_at (path := []) (pl := false) (e' := .agg [I (r9.Day), .usl 1 ((r9.Facts).map str), .usl 4 ((r9.Duties).map enc_Duty), .usl 1 ((r9.Balances).map I), B (r9.Over)]) (es2' := [.agg [I (r9.Day), .usl 1 ((r9.Facts).map str), .usl 4 ((r9.Duties).map enc_Duty), .usl 1 ((r9.Balances).map I), B (r9.Over)]]) rfl (absA (absC (abs_p rfl) (absC (abs_hs rfl (List.length_map ..).symm) (absC (abs_hs rfl (List.length_map ..).symm) (absC (abs_hs rfl (List.length_map ..).symm) (absC (abs_p rfl) (absN))))))) rfl rfl rfl (ra_n) rfl rfl rfl rfl rfl (sr_n) 1 rfl)) ?_
      refine s_ops ?_
      refine s_seq rfl ?_
      refine s_reg rfl ?_
      refine o 497 (.agg [I (r8.Day), .hs 385 1 [(0, 1)] 1 0 (r8.Facts).length, .hs 385 1 [(0, 2)] 4 0 (r8.Duties).length, .hs 385 1 [(0, 3)] 1 0 (r8.Balances).length, B (r8.Over)]) rfl rfl (e_ld rfl (ld_at (path := []) rfl rfl rfl (ra_n) rfl (vw_c rfl (vw_c vw_u (vw_c vw_u (vw_c vw_u (vw_c rfl (vw_n)))))) rfl rfl)) ?_
      refine o 513 (.agg [I (r9.Day), .hs 449 1 [(0, 1)] 1 0 (r9.Facts).length, .hs 449 1 [(0, 2)] 4 0 (r9.Duties).length, .hs 449 1 [(0, 3)] 1 0 (r9.Balances).length, B (r9.Over)]) rfl rfl (e_ld rfl (ld_at (path := []) rfl rfl rfl (ra_n) rfl (vw_c rfl (vw_c vw_u (vw_c vw_u (vw_c vw_u (vw_c rfl (vw_n)))))) rfl rfl)) ?_
      obtain ⟨r10, hr10, h⟩ := bS h
      refine o 529 (B (r10)) rfl rfl (e_callV rfl rfl (call_q rfl rfl rfl (avS (shA (shC (sh_p rfl) (shC (sh_at (path := [(0, 1)]) rfl rfl (ra_c rfl rfl (ra_n)) (List.length_map ..).symm (imms_of (f := str) str_imm)) (shC (sh_at (path := [(0, 2)]) rfl rfl (ra_c rfl rfl (ra_n)) (List.length_map ..).symm (imms_of (f := enc_Duty) enc_Duty_imm)) (shC (sh_at (path := [(0, 3)]) rfl rfl (ra_c rfl rfl (ra_n)) (List.length_map ..).symm (imms_of (f := I) I_imm)) (shC (sh_p rfl) (shN))))))) (avS (shA (shC (sh_p rfl) (shC (sh_at (path := [(0, 1)]) rfl rfl (ra_c rfl rfl (ra_n)) (List.length_map ..).symm (imms_of (f := str) str_imm)) (shC (sh_at (path := [(0, 2)]) rfl rfl (ra_c rfl rfl (ra_n)) (List.length_map ..).symm (imms_of (f := enc_Duty) enc_Duty_imm)) (shC (sh_at (path := [(0, 3)]) rfl rfl (ra_c rfl rfl (ra_n)) (List.length_map ..).symm (imms_of (f := I) I_imm)) (shC (sh_p rfl) (shN))))))) (avN))) (impl_EqualStates_F hr10) rfl rfl rfl)) ?_
      refine o 545 (B (r10)) rfl rfl (e_assign rfl) ?_
      refine s_ops ?_
      refine s_seq rfl ?_
      refine s_seq rfl ?_
      refine s_reg rfl ?_
      refine o 561 (B (r10)) rfl rfl (e_move rfl) ?_
      refine o 577 (B (r7)) rfl rfl (e_move rfl) ?_
      refine o 593 (B ((!(r10 == r7)))) rfl rfl (e_bin rfl rfl rfl) ?_
      refine s_ops ?_
      refine s_cond rfl rfl (fun hb => ?_) (fun hb => ?_)
      · replace h := cT hb h
        refine s_seq rfl ?_
        refine s_reg rfl ?_
        refine o 609 (B (false)) rfl rfl (e_assign rfl) ?_
        refine s_ops ?_
        obtain rfl := Option.some.inj h
        exact s_ret rfl (fin (vs := [B (false)]) rfl (absE (absorb_plain rfl) (absEN)) rfl rfl)
      · replace h := cF hb h
        refine s_skip rfl ?_
        refine s_seq rfl ?_
        refine s_seq rfl ?_
        refine s_draw [0, 0, 2, 7, 15] rfl (by decide +kernel) ?_
        refine dp [385] [] (.agg [I (r8.Day), .hs 385 1 [(0, 1)] 1 0 (r8.Facts).length, .hs 385 1 [(0, 2)] 4 0 (r8.Duties).length, .hs 385 1 [(0, 3)] 1 0 (r8.Balances).length, B (r8.Over)]) rfl (e_ld rfl (ld_at (path := []) rfl rfl rfl (ra_n) rfl (vw_c rfl (vw_c vw_u (vw_c vw_u (vw_c vw_u (vw_c rfl (vw_n)))))) rfl rfl)) rfl (rfl) (by decide) ?_
        refine dp [1] [] (.agg [I (aA_1.Day), .isl false ((aA_1.Facts).map str), .isl false ((aA_1.Duties).map enc_Duty), .isl false ((aA_1.Balances).map I), B (aA_1.Over)]) rfl (e_ld rfl rfl) rfl (rfl) (by decide) ?_
        obtain ⟨r11, hr11, h⟩ := bS h
        refine dp [] [] (.agg [I (r11.Day), .hs 625 0 [] 1 0 (r11.Facts).length, .hs 626 0 [] 4 0 (r11.Duties).length, .hs 627 0 [] 1 0 (r11.Balances).length, B (r11.Over)]) rfl (e_callV rfl rfl (call_R (ys := [.agg [I (r11.Day), .hs 625 0 [] 1 0 (r11.Facts).length, .hs 626 0 [] 4 0 (r11.Duties).length, .hs 627 0 [] 1 0 (r11.Balances).length, B (r11.Over)]]) (R := [(0, 1, ⟨0, 1, (r11.Facts).map str⟩), (0, 2, ⟨0, 4, (r11.Duties).map enc_Duty⟩), (0, 3, ⟨0, 1, (r11.Balances).map I⟩)]) rfl rfl rfl (avS (shP rfl) (avN)) (laws_toState_F hr11) (by simp [hasImm, hasImms, himm_map str_himm, himm_map enc_Duty_himm, himm_map I_himm]) (by simp [inst1s, inst1, instC, cells, comps]) rfl rfl)) rfl (w_call rfl rfl rfl rfl (avS (shP rfl) (avN)) (laws_toState_F hr11) (by simp [hasImm, hasImms, himm_map str_himm, himm_map enc_Duty_himm, himm_map I_himm])) (by decide) ?_
        obtain ⟨r12, hr12, h⟩ := bS h
        refine dp [385, 385, 385, 625, 626, 627] [] (B (r12)) rfl (e_callV rfl rfl (call_q rfl rfl rfl (avS (shA (shC (sh_p rfl) (shC (sh_at (path := [(0, 1)]) rfl rfl (ra_c rfl rfl (ra_n)) (List.length_map ..).symm (imms_of (f := str) str_imm)) (shC (sh_at (path := [(0, 2)]) rfl rfl (ra_c rfl rfl (ra_n)) (List.length_map ..).symm (imms_of (f := enc_Duty) enc_Duty_imm)) (shC (sh_at (path := [(0, 3)]) rfl rfl (ra_c rfl rfl (ra_n)) (List.length_map ..).symm (imms_of (f := I) I_imm)) (shC (sh_p rfl) (shN))))))) (avS (shA (shC (sh_p rfl) (shC (sh_hs (f := str) (g := str) (xs := r11.Facts) rfl rfl (imms_of str_imm)) (shC (sh_hs (f := enc_Duty) (g := enc_Duty) (xs := r11.Duties) rfl rfl (imms_of enc_Duty_imm)) (shC (sh_hs (f := I) (g := I) (xs := r11.Balances) rfl rfl (imms_of I_imm)) (shC (sh_p rfl) (shN))))))) (avN))) (laws_eqState_F hr12) rfl rfl rfl)) rfl (w_call rfl rfl rfl rfl (avS (shA (shC (sh_p rfl) (shC (sh_at (path := [(0, 1)]) rfl rfl (ra_c rfl rfl (ra_n)) (List.length_map ..).symm (imms_of (f := str) str_imm)) (shC (sh_at (path := [(0, 2)]) rfl rfl (ra_c rfl rfl (ra_n)) (List.length_map ..).symm (imms_of (f := enc_Duty) enc_Duty_imm)) (shC (sh_at (path := [(0, 3)]) rfl rfl (ra_c rfl rfl (ra_n)) (List.length_map ..).symm (imms_of (f := I) I_imm)) (shC (sh_p rfl) (shN))))))) (avS (shA (shC (sh_p rfl) (shC (sh_hs (f := str) (g := str) (xs := r11.Facts) rfl rfl (imms_of str_imm)) (shC (sh_hs (f := enc_Duty) (g := enc_Duty) (xs := r11.Duties) rfl rfl (imms_of enc_Duty_imm)) (shC (sh_hs (f := I) (g := I) (xs := r11.Balances) rfl rfl (imms_of I_imm)) (shC (sh_p rfl) (shN))))))) (avN))) (laws_eqState_F hr12) rfl) (by decide) ?_
        refine dp [] [] (B ((!r12))) rfl (e_un rfl rfl) rfl (rfl) (by decide) ?_
        refine de 673 rfl rfl ?_
        refine s_cond rfl rfl (fun hb => ?_) (fun hb => ?_)
        · replace h := cT hb h
          refine s_seq rfl ?_
          refine s_reg rfl ?_
          refine o 689 (B (false)) rfl rfl (e_assign rfl) ?_
          refine s_ops ?_
          obtain rfl := Option.some.inj h
          exact s_ret rfl (fin (vs := [B (false)]) rfl (absE (absorb_plain rfl) (absEN)) rfl rfl)
        · replace h := cF hb h
          refine s_skip rfl ?_
          refine s_seq rfl ?_
          refine s_seq rfl ?_
          refine s_draw [0, 0, 2, 7, 15] rfl (by decide +kernel) ?_
          refine dp [449] [] (.agg [I (r9.Day), .hs 449 1 [(0, 1)] 1 0 (r9.Facts).length, .hs 449 1 [(0, 2)] 4 0 (r9.Duties).length, .hs 449 1 [(0, 3)] 1 0 (r9.Balances).length, B (r9.Over)]) rfl (e_ld rfl (ld_at (path := []) rfl rfl rfl (ra_n) rfl (vw_c rfl (vw_c vw_u (vw_c vw_u (vw_c vw_u (vw_c rfl (vw_n)))))) rfl rfl)) rfl (rfl) (by decide) ?_
          refine dp [17] [] (.agg [I (aB_2.Day), .isl false ((aB_2.Facts).map str), .isl false ((aB_2.Duties).map enc_Duty), .isl false ((aB_2.Balances).map I), B (aB_2.Over)]) rfl (e_ld rfl rfl) rfl (rfl) (by decide) ?_
          obtain ⟨r13, hr13, h⟩ := bS h
          refine dp [] [] (.agg [I (r13.Day), .hs 705 0 [] 1 0 (r13.Facts).length, .hs 706 0 [] 4 0 (r13.Duties).length, .hs 707 0 [] 1 0 (r13.Balances).length, B (r13.Over)]) rfl (e_callV rfl rfl (call_R (ys := [.agg [I (r13.Day), .hs 705 0 [] 1 0 (r13.Facts).length, .hs 706 0 [] 4 0 (r13.Duties).length, .hs 707 0 [] 1 0 (r13.Balances).length, B (r13.Over)]]) (R := [(0, 1, ⟨0, 1, (r13.Facts).map str⟩), (0, 2, ⟨0, 4, (r13.Duties).map enc_Duty⟩), (0, 3, ⟨0, 1, (r13.Balances).map I⟩)]) rfl rfl rfl (avS (shP rfl) (avN)) (laws_toState_F hr13) (by simp [hasImm, hasImms, himm_map str_himm, himm_map enc_Duty_himm, himm_map I_himm]) (by simp [inst1s, inst1, instC, cells, comps]) rfl rfl)) rfl (w_call rfl rfl rfl rfl (avS (shP rfl) (avN)) (laws_toState_F hr13) (by simp [hasImm, hasImms, himm_map str_himm, himm_map enc_Duty_himm, himm_map I_himm])) (by decide) ?_
          obtain ⟨r14, hr14, h⟩ := bS h
          refine dp [449, 449, 449, 705, 706, 707] [] (B (r14)) rfl (e_callV rfl rfl (call_q rfl rfl rfl (avS (shA (shC (sh_p rfl) (shC (sh_at (path := [(0, 1)]) rfl rfl (ra_c rfl rfl (ra_n)) (List.length_map ..).symm (imms_of (f := str) str_imm)) (shC (sh_at (path := [(0, 2)]) rfl rfl (ra_c rfl rfl (ra_n)) (List.length_map ..).symm (imms_of (f := enc_Duty) enc_Duty_imm)) (shC (sh_at (path := [(0, 3)]) rfl rfl (ra_c rfl rfl (ra_n)) (List.length_map ..).symm (imms_of (f := I) I_imm)) (shC (sh_p rfl) (shN))))))) (avS (shA (shC (sh_p rfl) (shC (sh_hs (f := str) (g := str) (xs := r13.Facts) rfl rfl (imms_of str_imm)) (shC (sh_hs (f := enc_Duty) (g := enc_Duty) (xs := r13.Duties) rfl rfl (imms_of enc_Duty_imm)) (shC (sh_hs (f := I) (g := I) (xs := r13.Balances) rfl rfl (imms_of I_imm)) (shC (sh_p rfl) (shN))))))) (avN))) (laws_eqState_F hr14) rfl rfl rfl)) rfl (w_call rfl rfl rfl rfl (avS (shA (shC (sh_p rfl) (shC (sh_at (path := [(0, 1)]) rfl rfl (ra_c rfl rfl (ra_n)) (List.length_map ..).symm (imms_of (f := str) str_imm)) (shC (sh_at (path := [(0, 2)]) rfl rfl (ra_c rfl rfl (ra_n)) (List.length_map ..).symm (imms_of (f := enc_Duty) enc_Duty_imm)) (shC (sh_at (path := [(0, 3)]) rfl rfl (ra_c rfl rfl (ra_n)) (List.length_map ..).symm (imms_of (f := I) I_imm)) (shC (sh_p rfl) (shN))))))) (avS (shA (shC (sh_p rfl) (shC (sh_hs (f := str) (g := str) (xs := r13.Facts) rfl rfl (imms_of str_imm)) (shC (sh_hs (f := enc_Duty) (g := enc_Duty) (xs := r13.Duties) rfl rfl (imms_of enc_Duty_imm)) (shC (sh_hs (f := I) (g := I) (xs := r13.Balances) rfl rfl (imms_of I_imm)) (shC (sh_p rfl) (shN))))))) (avN))) (laws_eqState_F hr14) rfl) (by decide) ?_
          refine dp [] [] (B ((!r14))) rfl (e_un rfl rfl) rfl (rfl) (by decide) ?_
          refine de 753 rfl rfl ?_
          refine s_cond rfl rfl (fun hb => ?_) (fun hb => ?_)
          · replace h := cT hb h
            refine s_seq rfl ?_
            refine s_reg rfl ?_
            refine o 769 (B (false)) rfl rfl (e_assign rfl) ?_
            refine s_ops ?_
            obtain rfl := Option.some.inj h
            exact s_ret rfl (fin (vs := [B (false)]) rfl (absE (absorb_plain rfl) (absEN)) rfl rfl)
          · replace h := cF hb h
            refine s_skip rfl ?_
            refine s_seq rfl ?_
            refine s_reg rfl ?_
            refine o 769 (B (true)) rfl rfl (e_assign rfl) ?_
            refine s_ops ?_
            obtain rfl := Option.some.inj h
            exact s_ret rfl (fin (vs := [B (true)]) rfl (absE (absorb_plain rfl) (absEN)) rfl rfl)
noncomputable def laws_FnExactEqualStates_ent : Ent := ⟨[false, false], entF2 (decBy encI_State) (decBy encI_State) fun aA_1 aB_2 => (laws_FnExactEqualStates aA_1 aB_2).map fun r => (B (r), [])⟩
theorem laws_FnExactEqualStates_F {aA_1 : State} {aB_2 : State} {r : Bool} (h : laws_FnExactEqualStates aA_1 aB_2 = some r) : laws_FnExactEqualStates_ent.F [.agg [I (aA_1.Day), .isl false ((aA_1.Facts).map str), .isl false ((aA_1.Duties).map enc_Duty), .isl false ((aA_1.Balances).map I), B (aA_1.Over)], .agg [I (aB_2.Day), .isl false ((aB_2.Facts).map str), .isl false ((aB_2.Duties).map enc_Duty), .isl false ((aB_2.Balances).map I), B (aB_2.Over)]] = some (B (r), []) := by
  have e : laws_FnExactEqualStates_ent.F [encI_State aA_1, encI_State aB_2] = (laws_FnExactEqualStates aA_1 aB_2).map fun r => (B (r), []) := by
    simp only [laws_FnExactEqualStates_ent, entF2, decS, dec_ok encI_State_inj, dec_ok encI_State_inj, Option.bind_some]
  refine Eq.trans ?_ ((congrArg (Option.map fun r => ((B (r) : V), ([] : List V))) h))
  exact e
theorem laws_FnExactEqualStates_good {G : Ground} (g9 : Good Try.prog G 9 laws_szState_ent) (g11 : Good Try.prog G 11 laws_toState_ent) (g10 : Good Try.prog G 10 spec_EqualStates_ent) (g12 : Good Try.prog G 12 impl_EqualStates_ent) (g13 : Good Try.prog G 13 laws_eqState_ent) : Good Try.prog G 4 laws_FnExactEqualStates_ent := by
  refine good_of_run (E := laws_FnExactEqualStates_E) (fnOf_good (by
    intro p hp
    simp only [List.mem_cons, List.not_mem_nil, or_false] at hp
    rcases hp with rfl | rfl | rfl | rfl | rfl
    · exact g9
    · exact g11
    · exact g10
    · exact g12
    · exact g13)) agree_mk (Checked.mixed Try.checked) Try.func4 (c := laws_FnExactEqualStates_c) (n := 2) ⟨rfl, rfl, by decide⟩ ?_
  intro vs r os h
  obtain ⟨v0, v1, aA_1, aB_2, rfl, q0, q1, h9⟩ := entI2 h
  obtain rfl := dec_of q0
  obtain rfl := dec_of q1
  obtain ⟨r1, hr1, he⟩ := Option.map_eq_some_iff.1 h9
  cases he
  exact ⟨rfl, laws_FnExactEqualStates_run aA_1 aB_2 r1 hr1⟩
end Go.Ln
