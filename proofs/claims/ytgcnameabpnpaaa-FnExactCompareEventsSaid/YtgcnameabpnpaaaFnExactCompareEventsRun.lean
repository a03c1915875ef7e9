/-
  Each function of the program computes its plain function.
-/
import Derived.Test.YtgcnameabpnpaaaFnExactCompareEventsFun
import Derived.Test.YtgcnameabpnpaaaChecked
set_option linter.unusedVariables false
set_option linter.unusedSimpArgs false
set_option maxRecDepth 100000
namespace Go.Ln
open Go Go.Proofs
noncomputable def laws_szEvent_c : Code := bodyOf Try.f5
noncomputable def laws_szEvent_E : Env := mkE Try.prog []
def laws_szEvent_Q (a_1 : Event) (left_2 : Int) (r : Int) (st : St) : Prop := finish laws_szEvent_E Try.f5 [false, false] (enter Try.f5 [.agg [I (a_1.Day), I (a_1.Party), str (a_1.Action), I (a_1.Amount)], I (left_2)]).1 st = some (I (r), [])
theorem laws_szEvent_run (a_1 : Event) (left_2 : Int) (r : Int) (h : laws_szEvent a_1 left_2 = some r) : Run laws_szEvent_E 0 (laws_szEvent_Q a_1 left_2 r) [.code laws_szEvent_c] (enter Try.f5 [.agg [I (a_1.Day), I (a_1.Party), str (a_1.Action), I (a_1.Amount)], I (left_2)]).2 := by
  refine run_at (enter_eq (ys := [.agg [I (a_1.Day), I (a_1.Party), str (a_1.Action), I (a_1.Amount)], I (left_2)]) (R := []) (n := 13) (l := [(0, .agg [I (a_1.Day), I (a_1.Party), str (a_1.Action), I (a_1.Amount)]), (1, I (left_2))]) (nx := 1) rfl rfl rfl) ?_
  unfold laws_szEvent at h
  refine s_seq rfl ?_
  refine s_reg rfl ?_
  refine o 17 (.hp 1 0 [] 4 0 0) rfl rfl (e_boxP rfl rfl rfl) ?_
  refine o 33 (I (0)) rfl rfl (e_assign rfl) ?_
  refine s_ops ?_
  refine s_seq rfl ?_
  refine s_reg rfl ?_
  refine o 49 (I (left_2)) rfl rfl (e_move rfl) ?_
  refine o 65 (.hp 1 0 [] 4 0 2) rfl rfl (e_fieldAddr rfl rfl rfl) ?_
  refine o 81 (str (a_1.Action)) rfl rfl (e_ld rfl rfl) ?_
  refine o 97 (I ((len a_1.Action))) rfl rfl (e_len rfl rfl rfl (l_str rfl)) ?_
  refine o 113 (I ((w64 (left_2 - (len a_1.Action))))) rfl rfl (e_bin rfl rfl rfl) ?_
  refine o 129 (I ((w64 (left_2 - (len a_1.Action))))) rfl rfl (e_assign rfl) ?_
  refine s_ops ?_
  refine s_seq rfl ?_
  refine s_seq rfl ?_
  refine s_reg rfl ?_
  refine o 145 (I ((w64 (left_2 - (len a_1.Action))))) rfl rfl (e_move rfl) ?_
  refine o 161 (B ((decide ((w64 (left_2 - (len a_1.Action))) < 0)))) rfl rfl (e_bin rfl rfl rfl) ?_
  refine s_ops ?_
  refine s_cond rfl rfl (fun hb => ?_) (fun hb => ?_)
  · replace h := cT hb h
    refine s_seq rfl ?_
    refine s_reg rfl ?_
    refine o 177 (I ((-1))) rfl rfl (e_assign rfl) ?_
    refine s_ops ?_
    obtain rfl := Option.some.inj h
    exact s_ret rfl (fin (vs := [I ((-1))]) rfl (absE (absorb_plain rfl) (absEN)) rfl rfl)
  · replace h := cF hb h
    refine s_skip rfl ?_
    refine s_seq rfl ?_
    refine s_reg rfl ?_
    refine o 177 (I ((w64 (left_2 - (len a_1.Action))))) rfl rfl (e_move rfl) ?_
    refine o 193 (I ((w64 (left_2 - (len a_1.Action))))) rfl rfl (e_assign rfl) ?_
    refine s_ops ?_
    obtain rfl := Option.some.inj h
    exact s_ret rfl (fin (vs := [I ((w64 (left_2 - (len a_1.Action))))]) rfl (absE (absorb_plain rfl) (absEN)) rfl rfl)
noncomputable def laws_szEvent_ent : Ent := ⟨[false, false], entF2 (decBy enc_Event) (decBy I) fun a_1 left_2 => (laws_szEvent a_1 left_2).map fun r => (I (r), [])⟩
theorem laws_szEvent_F {a_1 : Event} {left_2 : Int} {r : Int} (h : laws_szEvent a_1 left_2 = some r) : laws_szEvent_ent.F [.agg [I (a_1.Day), I (a_1.Party), str (a_1.Action), I (a_1.Amount)], I (left_2)] = some (I (r), []) := by
  have e : laws_szEvent_ent.F [enc_Event a_1, I (left_2)] = (laws_szEvent a_1 left_2).map fun r => (I (r), []) := by
    simp only [laws_szEvent_ent, entF2, decS, dec_ok enc_Event_inj, dec_ok I_inj, Option.bind_some]
  refine Eq.trans ?_ ((congrArg (Option.map fun r => ((I (r) : V), ([] : List V))) h))
  exact e
theorem laws_szEvent_good {G : Ground} : Good Try.prog G 5 laws_szEvent_ent := by
  refine good_of_run (E := laws_szEvent_E) (fnOf_good (by simp)) agree_mk (Checked.mixed Try.checked) Try.func5 (c := laws_szEvent_c) (n := 2) ⟨rfl, rfl, by decide⟩ ?_
  intro vs r os h
  obtain ⟨v0, v1, a_1, left_2, rfl, q0, q1, h9⟩ := entI2 h
  obtain rfl := dec_of q0
  obtain rfl := dec_of q1
  obtain ⟨r1, hr1, he⟩ := Option.map_eq_some_iff.1 h9
  cases he
  exact ⟨rfl, laws_szEvent_run a_1 left_2 r1 hr1⟩
noncomputable def laws_toEvent_c : Code := bodyOf Try.f7
noncomputable def laws_toEvent_E : Env := mkE Try.prog []
def laws_toEvent_Q (a_1 : Event) (r : Event) (st : St) : Prop := finish laws_toEvent_E Try.f7 [false] (enter Try.f7 [.agg [I (a_1.Day), I (a_1.Party), str (a_1.Action), I (a_1.Amount)]]).1 st = some (.agg [I (r.Day), I (r.Party), str (r.Action), I (r.Amount)], [])
theorem laws_toEvent_run (a_1 : Event) (r : Event) (h : laws_toEvent a_1 = some r) : Run laws_toEvent_E 0 (laws_toEvent_Q a_1 r) [.code laws_toEvent_c] (enter Try.f7 [.agg [I (a_1.Day), I (a_1.Party), str (a_1.Action), I (a_1.Amount)]]).2 := by
  refine run_at (enter_eq (ys := [.agg [I (a_1.Day), I (a_1.Party), str (a_1.Action), I (a_1.Amount)]]) (R := []) (n := 17) (l := [(0, .agg [I (a_1.Day), I (a_1.Party), str (a_1.Action), I (a_1.Amount)])]) (nx := 1) rfl rfl rfl) ?_
  unfold laws_toEvent at h
  refine s_seq rfl ?_
  refine s_reg rfl ?_
  refine o 17 (.hp 1 0 [] 4 0 0) rfl rfl (e_boxP rfl rfl rfl) ?_
  refine o 33 (.hp 17 0 [] 4 0 0) rfl rfl (e_allocP (z := .agg [I (0), I (0), str ([]), I (0)]) rfl rfl rfl) ?_
  refine s_ops ?_
  refine s_seq rfl ?_
  refine s_reg rfl ?_
  refine o 49 (.hp 33 0 [] 4 0 0) rfl rfl (e_allocP (z := .agg [I (0), I (0), str ([]), I (0)]) rfl rfl rfl) ?_
  refine s_ops ?_
  refine s_seq rfl ?_
  refine s_reg rfl ?_
  refine o 65 (.hp 1 0 [] 4 0 0) rfl rfl (e_fieldAddr rfl rfl rfl) ?_
  refine o 81 (I (a_1.Day)) rfl rfl (e_ld rfl rfl) ?_
  refine o 97 (.hp 33 0 [] 4 0 0) rfl rfl (e_fieldAddr rfl rfl rfl) ?_
  refine o0 113 rfl rfl (e_st rfl rfl (stS (e' := .agg [I (a_1.Day), I (0), str ([]), I (0)]) (es' := [.agg [I (a_1.Day), I (0), str ([]), I (0)]]) rfl rfl rfl rfl rfl rfl rfl rfl rfl)) ?_
  refine s_ops ?_
  refine s_seq rfl ?_
  refine s_reg rfl ?_
  refine o 129 (.hp 1 0 [] 4 0 1) rfl rfl (e_fieldAddr rfl rfl rfl) ?_
  refine o 145 (I (a_1.Party)) rfl rfl (e_ld rfl rfl) ?_
  refine o 161 (.hp 33 0 [] 4 0 1) rfl rfl (e_fieldAddr rfl rfl rfl) ?_
  refine o0 177 rfl rfl (e_st rfl rfl (stS (e' := .agg [I (a_1.Day), I (a_1.Party), str ([]), I (0)]) (es' := [.agg [I (a_1.Day), I (a_1.Party), str ([]), I (0)]]) rfl rfl rfl rfl rfl rfl rfl rfl rfl)) ?_
  refine s_ops ?_
  refine s_seq rfl ?_
  refine s_reg rfl ?_
  refine o 193 (.hp 1 0 [] 4 0 2) rfl rfl (e_fieldAddr rfl rfl rfl) ?_
  refine o 209 (str (a_1.Action)) rfl rfl (e_ld rfl rfl) ?_
  refine o 225 (.hp 33 0 [] 4 0 2) rfl rfl (e_fieldAddr rfl rfl rfl) ?_
  refine o0 241 rfl rfl (e_st rfl rfl (stS (e' := .agg [I (a_1.Day), I (a_1.Party), str (a_1.Action), I (0)]) (es' := [.agg [I (a_1.Day), I (a_1.Party), str (a_1.Action), I (0)]]) rfl rfl rfl rfl rfl rfl rfl rfl rfl)) ?_
  refine s_ops ?_
  refine s_seq rfl ?_
  refine s_reg rfl ?_
  refine o 257 (.hp 1 0 [] 4 0 3) rfl rfl (e_fieldAddr rfl rfl rfl) ?_
  refine o 273 (I (a_1.Amount)) rfl rfl (e_ld rfl rfl) ?_
  refine o 289 (.hp 33 0 [] 4 0 3) rfl rfl (e_fieldAddr rfl rfl rfl) ?_
  refine o0 305 rfl rfl (e_st rfl rfl (stS (e' := .agg [I (a_1.Day), I (a_1.Party), str (a_1.Action), I (a_1.Amount)]) (es' := [.agg [I (a_1.Day), I (a_1.Party), str (a_1.Action), I (a_1.Amount)]]) rfl rfl rfl rfl rfl rfl rfl rfl rfl)) ?_
  refine s_ops ?_
  refine s_seq rfl ?_
  refine s_reg rfl ?_
  refine o 321 (.agg [I (a_1.Day), I (a_1.Party), str (a_1.Action), I (a_1.Amount)]) rfl rfl (e_ld rfl rfl) ?_
  refine o0 337 rfl rfl (e_st rfl rfl (stS (e' := .agg [I (a_1.Day), I (a_1.Party), str (a_1.Action), I (a_1.Amount)]) (es' := [.agg [I (a_1.Day), I (a_1.Party), str (a_1.Action), I (a_1.Amount)]]) rfl rfl rfl rfl rfl rfl rfl rfl rfl)) ?_
  refine s_ops ?_
  obtain rfl := Option.some.inj h
  exact s_ret rfl (fin (vs := [.agg [I (a_1.Day), I (a_1.Party), str (a_1.Action), I (a_1.Amount)]]) rfl (absE (absorb_plain rfl) (absEN)) rfl rfl)
noncomputable def laws_toEvent_ent : Ent := ⟨[false], entF1 (decBy enc_Event) fun a_1 => (laws_toEvent a_1).map fun r => (.agg [I (r.Day), I (r.Party), str (r.Action), I (r.Amount)], [])⟩
theorem laws_toEvent_F {a_1 : Event} {r : Event} (h : laws_toEvent a_1 = some r) : laws_toEvent_ent.F [.agg [I (a_1.Day), I (a_1.Party), str (a_1.Action), I (a_1.Amount)]] = some (.agg [I (r.Day), I (r.Party), str (r.Action), I (r.Amount)], []) := by
  have e : laws_toEvent_ent.F [enc_Event a_1] = (laws_toEvent a_1).map fun r => (.agg [I (r.Day), I (r.Party), str (r.Action), I (r.Amount)], []) := by
    simp only [laws_toEvent_ent, entF1, decS, dec_ok enc_Event_inj, Option.bind_some]
  refine Eq.trans ?_ ((congrArg (Option.map fun r => ((.agg [I (r.Day), I (r.Party), str (r.Action), I (r.Amount)] : V), ([] : List V))) h))
  exact e
theorem laws_toEvent_good {G : Ground} : Good Try.prog G 7 laws_toEvent_ent := by
  refine good_of_run (E := laws_toEvent_E) (fnOf_good (by simp)) agree_mk (Checked.mixed Try.checked) Try.func7 (c := laws_toEvent_c) (n := 1) ⟨rfl, rfl, by decide⟩ ?_
  intro vs r os h
  obtain ⟨v0, a_1, rfl, q0, h9⟩ := entI1 h
  obtain rfl := dec_of q0
  obtain ⟨r1, hr1, he⟩ := Option.map_eq_some_iff.1 h9
  cases he
  exact ⟨rfl, laws_toEvent_run a_1 r1 hr1⟩
noncomputable def spec_l8Compare_c : Code := bodyOf Try.f14
noncomputable def spec_l8Compare_E : Env := mkE Try.prog []
def spec_l8Compare_Q (a_1 : Event) (b_2 : Event) (r : Int) (st : St) : Prop := finish spec_l8Compare_E Try.f14 [false, false] (enter Try.f14 [.agg [I (a_1.Day), I (a_1.Party), str (a_1.Action), I (a_1.Amount)], .agg [I (b_2.Day), I (b_2.Party), str (b_2.Action), I (b_2.Amount)]]).1 st = some (I (r), [])
theorem spec_l8Compare_run (a_1 : Event) (b_2 : Event) (r : Int) (h : spec_l8Compare a_1 b_2 = some r) : Run spec_l8Compare_E 0 (spec_l8Compare_Q a_1 b_2 r) [.code spec_l8Compare_c] (enter Try.f14 [.agg [I (a_1.Day), I (a_1.Party), str (a_1.Action), I (a_1.Amount)], .agg [I (b_2.Day), I (b_2.Party), str (b_2.Action), I (b_2.Amount)]]).2 := by
  refine run_at (enter_eq (ys := [.agg [I (a_1.Day), I (a_1.Party), str (a_1.Action), I (a_1.Amount)], .agg [I (b_2.Day), I (b_2.Party), str (b_2.Action), I (b_2.Amount)]]) (R := []) (n := 51) (l := [(0, .agg [I (a_1.Day), I (a_1.Party), str (a_1.Action), I (a_1.Amount)]), (1, .agg [I (b_2.Day), I (b_2.Party), str (b_2.Action), I (b_2.Amount)])]) (nx := 1) rfl rfl rfl) ?_
  unfold spec_l8Compare at h
  refine s_seq rfl ?_
  refine s_reg rfl ?_
  refine o 17 (.hp 1 0 [] 4 0 0) rfl rfl (e_boxP rfl rfl rfl) ?_
  refine o 33 (.hp 17 0 [] 4 0 0) rfl rfl (e_boxP rfl rfl rfl) ?_
  refine o 49 (I (0)) rfl rfl (e_assign rfl) ?_
  refine s_ops ?_
  refine s_seq rfl ?_
  refine s_draw [0, 1, 0, 4, 3, 31] rfl (by decide +kernel) ?_
  refine dp [1] [] (.hp 1 0 [] 4 0 3) rfl (e_fieldAddr rfl rfl rfl) rfl (rfl) (by decide) ?_
  refine dp [1] [] (I (a_1.Amount)) rfl (e_ld rfl rfl) rfl (rfl) (by decide) ?_
  refine dp [17] [] (.hp 17 0 [] 4 0 3) rfl (e_fieldAddr rfl rfl rfl) rfl (rfl) (by decide) ?_
  refine dp [17] [] (I (b_2.Amount)) rfl (e_ld rfl rfl) rfl (rfl) (by decide) ?_
  refine dp [] [] (I (a_1.Amount)) rfl (e_assign rfl) rfl (rfl) (by decide) ?_
  refine dp [] [] (I (b_2.Amount)) rfl (e_assign rfl) rfl (rfl) (by decide) ?_
  refine de 145 rfl rfl ?_
  refine s_seq rfl ?_
  refine s_block rfl ?_
  refine s_seq rfl ?_
  refine s_reg rfl ?_
  refine o 161 (.hp 1 0 [] 4 0 0) rfl rfl (e_fieldAddr rfl rfl rfl) ?_
  refine o 177 (I (a_1.Day)) rfl rfl (e_ld rfl rfl) ?_
  refine o 193 (.hp 17 0 [] 4 0 0) rfl rfl (e_fieldAddr rfl rfl rfl) ?_
  refine o 209 (I (b_2.Day)) rfl rfl (e_ld rfl rfl) ?_
  refine o 225 (B ((a_1.Day != b_2.Day))) rfl rfl (e_bin rfl rfl rfl) ?_
  refine o 241 (B ((a_1.Day != b_2.Day))) rfl rfl (e_assign rfl) ?_
  refine s_ops ?_
  obtain ⟨y3, hy3, hy31, hy32⟩ := bJ h
  have j3 : ∀ u3, y3 = .inr u3 → Run spec_l8Compare_E 0 (spec_l8Compare_Q a_1 b_2 r) (.blk 0 :: .code (cR (cR (cR spec_l8Compare_c))) :: []) ⟨mkTm .dead 51 [(5, I (u3.1)), (6, I (u3.2))], mkS (rtL [] 1), 1⟩ := by
    intro u3 hu
    replace h := hy32 u3 hu
    refine s_blk ?_
    refine s_seq rfl ?_
    refine s_block rfl ?_
    refine s_seq rfl ?_
    refine s_reg rfl ?_
    refine o 17 (I (u3.1)) rfl rfl (e_move rfl) ?_
    refine o 33 (I (u3.2)) rfl rfl (e_move rfl) ?_
    refine o 49 (B ((decide (u3.1 < u3.2)))) rfl rfl (e_bin rfl rfl rfl) ?_
    refine o 65 (B ((decide (u3.1 < u3.2)))) rfl rfl (e_assign rfl) ?_
    refine s_ops ?_
    refine s_cond rfl rfl (fun hb => ?_) (fun hb => ?_)
    · replace h := cT hb h
      refine s_seq rfl ?_
      refine s_reg rfl ?_
      refine o 81 (I ((-1))) rfl rfl (e_assign rfl) ?_
      refine s_ops ?_
      obtain rfl := Option.some.inj h
      exact s_ret rfl (fin (vs := [I ((-1))]) rfl (absE (absorb_plain rfl) (absEN)) rfl rfl)
    · replace h := cF hb h
      refine s_seq rfl ?_
      refine s_reg rfl ?_
      refine o 81 (I (u3.1)) rfl rfl (e_move rfl) ?_
      refine o 97 (I (u3.2)) rfl rfl (e_move rfl) ?_
      refine o 113 (B ((decide (u3.1 > u3.2)))) rfl rfl (e_bin rfl rfl rfl) ?_
      refine o 129 (B ((decide (u3.1 > u3.2)))) rfl rfl (e_assign rfl) ?_
      refine s_ops ?_
      refine s_cond rfl rfl (fun hb => ?_) (fun hb => ?_)
      · replace h := cT hb h
        refine s_seq rfl ?_
        refine s_reg rfl ?_
        refine o 145 (I (1)) rfl rfl (e_assign rfl) ?_
        refine s_ops ?_
        obtain rfl := Option.some.inj h
        exact s_ret rfl (fin (vs := [I (1)]) rfl (absE (absorb_plain rfl) (absEN)) rfl rfl)
      · replace h := cF hb h
        refine s_skip rfl ?_
        refine s_blk ?_
        refine s_seq rfl ?_
        refine s_reg rfl ?_
        refine o 145 (I (0)) rfl rfl (e_assign rfl) ?_
        refine s_ops ?_
        obtain rfl := Option.some.inj h
        exact s_ret rfl (fin (vs := [I (0)]) rfl (absE (absorb_plain rfl) (absEN)) rfl rfl)
  have r3 : ∀ r', y3 = .inl r' → ∀ st, spec_l8Compare_Q a_1 b_2 r' st → (spec_l8Compare_Q a_1 b_2 r) st := fun r' e st hq => by rw [hy31 r' e] at hq; exact hq
  replace h := hy3
  refine s_cond rfl rfl (fun hb => ?_) (fun hb => ?_)
  · replace h := cT hb h
    refine s_seq rfl ?_
    refine s_reg rfl ?_
    refine o 257 (.hp 1 0 [] 4 0 0) rfl rfl (e_fieldAddr rfl rfl rfl) ?_
    refine o 273 (I (a_1.Day)) rfl rfl (e_ld rfl rfl) ?_
    refine o 289 (I (a_1.Day)) rfl rfl (e_assign rfl) ?_
    refine s_ops ?_
    refine s_reg rfl ?_
    refine o 305 (.hp 17 0 [] 4 0 0) rfl rfl (e_fieldAddr rfl rfl rfl) ?_
    refine o 321 (I (b_2.Day)) rfl rfl (e_ld rfl rfl) ?_
    refine o 337 (I (b_2.Day)) rfl rfl (e_assign rfl) ?_
    refine s_ops ?_
    refine run_forget [5, 6] [] [] rfl rfl rfl rfl ?_
    exact j3 _ (Option.some.inj h).symm
  · replace h := cF hb h
    refine s_seq rfl ?_
    refine s_reg rfl ?_
    refine o 257 (.hp 1 0 [] 4 0 1) rfl rfl (e_fieldAddr rfl rfl rfl) ?_
    refine o 273 (I (a_1.Party)) rfl rfl (e_ld rfl rfl) ?_
    refine o 289 (.hp 17 0 [] 4 0 1) rfl rfl (e_fieldAddr rfl rfl rfl) ?_
    refine o 305 (I (b_2.Party)) rfl rfl (e_ld rfl rfl) ?_
    refine o 321 (B ((a_1.Party != b_2.Party))) rfl rfl (e_bin rfl rfl rfl) ?_
    refine o 337 (B ((a_1.Party != b_2.Party))) rfl rfl (e_assign rfl) ?_
    refine s_ops ?_
    obtain ⟨y4, hy4, hy41, hy42⟩ := bL h
    have j4 : ∀ u4, y4 = .inr u4 → Run spec_l8Compare_E 0 (spec_l8Compare_Q a_1 b_2 r) (.blk 0 :: .code (cR (cR (cR spec_l8Compare_c))) :: []) ⟨mkTm .dead 51 [(5, I (u4.1)), (6, I (u4.2))], mkS (rtL [] 1), 1⟩ := by
      intro u4 hu
      replace h := hy42 u4 hu
      refine run_forget [5, 6] [] [] rfl rfl rfl rfl ?_
      exact j3 _ (Option.some.inj h).symm
    have r4 : ∀ r', y4 = .inl r' → ∀ st, spec_l8Compare_Q a_1 b_2 r' st → (spec_l8Compare_Q a_1 b_2 r) st := fun r' e st hq => r3 r' (hy41 r' e) st hq
    replace h := hy4
    refine s_cond rfl rfl (fun hb => ?_) (fun hb => ?_)
    · replace h := cT hb h
      refine s_seq rfl ?_
      refine s_reg rfl ?_
      refine o 353 (.hp 1 0 [] 4 0 1) rfl rfl (e_fieldAddr rfl rfl rfl) ?_
      refine o 369 (I (a_1.Party)) rfl rfl (e_ld rfl rfl) ?_
      refine o 385 (I (a_1.Party)) rfl rfl (e_assign rfl) ?_
      refine s_ops ?_
      refine s_reg rfl ?_
      refine o 401 (.hp 17 0 [] 4 0 1) rfl rfl (e_fieldAddr rfl rfl rfl) ?_
      refine o 417 (I (b_2.Party)) rfl rfl (e_ld rfl rfl) ?_
      refine o 433 (I (b_2.Party)) rfl rfl (e_assign rfl) ?_
      refine s_ops ?_
      refine run_forget [5, 6] [] [] rfl rfl rfl rfl ?_
      exact j4 _ (Option.some.inj h).symm
    · replace h := cF hb h
      refine s_seq rfl ?_
      refine s_reg rfl ?_
      refine o 353 (.hp 1 0 [] 4 0 2) rfl rfl (e_fieldAddr rfl rfl rfl) ?_
      refine o 369 (str (a_1.Action)) rfl rfl (e_ld rfl rfl) ?_
      refine o 385 (.hp 17 0 [] 4 0 2) rfl rfl (e_fieldAddr rfl rfl rfl) ?_
      refine o 401 (str (b_2.Action)) rfl rfl (e_ld rfl rfl) ?_
      refine o 417 (B ((Op.bytesLess a_1.Action b_2.Action))) rfl rfl (e_bin rfl rfl b_strlt) ?_
      refine o 433 (B ((Op.bytesLess a_1.Action b_2.Action))) rfl rfl (e_assign rfl) ?_
      refine s_ops ?_
      refine s_cond rfl rfl (fun hb => ?_) (fun hb => ?_)
      · replace h := cT hb h
        refine s_seq rfl ?_
        refine s_reg rfl ?_
        refine o 449 (I ((-1))) rfl rfl (e_assign rfl) ?_
        refine s_ops ?_
        exact s_ret rfl (r4 _ (Option.some.inj h).symm _ (fin (vs := [I ((-1))]) rfl (absE (absorb_plain rfl) (absEN)) rfl rfl))
      · replace h := cF hb h
        refine s_seq rfl ?_
        refine s_reg rfl ?_
        refine o 449 (.hp 1 0 [] 4 0 2) rfl rfl (e_fieldAddr rfl rfl rfl) ?_
        refine o 465 (str (a_1.Action)) rfl rfl (e_ld rfl rfl) ?_
        refine o 481 (.hp 17 0 [] 4 0 2) rfl rfl (e_fieldAddr rfl rfl rfl) ?_
        refine o 497 (str (b_2.Action)) rfl rfl (e_ld rfl rfl) ?_
        refine o 513 (B ((!(Op.bytesLess a_1.Action b_2.Action || a_1.Action == b_2.Action)))) rfl rfl (e_bin rfl rfl b_strgt) ?_
        refine o 529 (B ((!(Op.bytesLess a_1.Action b_2.Action || a_1.Action == b_2.Action)))) rfl rfl (e_assign rfl) ?_
        refine s_ops ?_
        refine s_cond rfl rfl (fun hb => ?_) (fun hb => ?_)
        · replace h := cT hb h
          refine s_seq rfl ?_
          refine s_reg rfl ?_
          refine o 545 (I (1)) rfl rfl (e_assign rfl) ?_
          refine s_ops ?_
          exact s_ret rfl (r4 _ (Option.some.inj h).symm _ (fin (vs := [I (1)]) rfl (absE (absorb_plain rfl) (absEN)) rfl rfl))
        · replace h := cF hb h
          refine s_skip rfl ?_
          refine run_forget [5, 6] [] [] rfl rfl rfl rfl ?_
          exact j4 _ (Option.some.inj h).symm
noncomputable def spec_l8Compare_ent : Ent := ⟨[false, false], entF2 (decBy enc_Event) (decBy enc_Event) fun a_1 b_2 => (spec_l8Compare a_1 b_2).map fun r => (I (r), [])⟩
theorem spec_l8Compare_F {a_1 : Event} {b_2 : Event} {r : Int} (h : spec_l8Compare a_1 b_2 = some r) : spec_l8Compare_ent.F [.agg [I (a_1.Day), I (a_1.Party), str (a_1.Action), I (a_1.Amount)], .agg [I (b_2.Day), I (b_2.Party), str (b_2.Action), I (b_2.Amount)]] = some (I (r), []) := by
  have e : spec_l8Compare_ent.F [enc_Event a_1, enc_Event b_2] = (spec_l8Compare a_1 b_2).map fun r => (I (r), []) := by
    simp only [spec_l8Compare_ent, entF2, decS, dec_ok enc_Event_inj, dec_ok enc_Event_inj, Option.bind_some]
  refine Eq.trans ?_ ((congrArg (Option.map fun r => ((I (r) : V), ([] : List V))) h))
  exact e
theorem spec_l8Compare_good {G : Ground} : Good Try.prog G 14 spec_l8Compare_ent := by
  refine good_of_run (E := spec_l8Compare_E) (fnOf_good (by simp)) agree_mk (Checked.mixed Try.checked) Try.func14 (c := spec_l8Compare_c) (n := 2) ⟨rfl, rfl, by decide⟩ ?_
  intro vs r os h
  obtain ⟨v0, v1, a_1, b_2, rfl, q0, q1, h9⟩ := entI2 h
  obtain rfl := dec_of q0
  obtain rfl := dec_of q1
  obtain ⟨r1, hr1, he⟩ := Option.map_eq_some_iff.1 h9
  cases he
  exact ⟨rfl, spec_l8Compare_run a_1 b_2 r1 hr1⟩
noncomputable def spec_CompareEvents_c : Code := bodyOf Try.f6
noncomputable def spec_CompareEvents_E : Env := mkE Try.prog [(14, spec_l8Compare_ent)]
def spec_CompareEvents_Q (a_1 : Event) (b_2 : Event) (r : Int) (st : St) : Prop := finish spec_CompareEvents_E Try.f6 [false, false] (enter Try.f6 [.agg [I (a_1.Day), I (a_1.Party), str (a_1.Action), I (a_1.Amount)], .agg [I (b_2.Day), I (b_2.Party), str (b_2.Action), I (b_2.Amount)]]).1 st = some (I (r), [])
theorem spec_CompareEvents_run (a_1 : Event) (b_2 : Event) (r : Int) (h : spec_CompareEvents a_1 b_2 = some r) : Run spec_CompareEvents_E 0 (spec_CompareEvents_Q a_1 b_2 r) [.code spec_CompareEvents_c] (enter Try.f6 [.agg [I (a_1.Day), I (a_1.Party), str (a_1.Action), I (a_1.Amount)], .agg [I (b_2.Day), I (b_2.Party), str (b_2.Action), I (b_2.Amount)]]).2 := by
  refine run_at (enter_eq (ys := [.agg [I (a_1.Day), I (a_1.Party), str (a_1.Action), I (a_1.Amount)], .agg [I (b_2.Day), I (b_2.Party), str (b_2.Action), I (b_2.Amount)]]) (R := []) (n := 8) (l := [(0, .agg [I (a_1.Day), I (a_1.Party), str (a_1.Action), I (a_1.Amount)]), (1, .agg [I (b_2.Day), I (b_2.Party), str (b_2.Action), I (b_2.Amount)])]) (nx := 1) rfl rfl rfl) ?_
  unfold spec_CompareEvents at h
  refine s_seq rfl ?_
  refine s_reg rfl ?_
  refine o 17 (.hp 1 0 [] 4 0 0) rfl rfl (e_boxP rfl rfl rfl) ?_
  refine o 33 (.hp 17 0 [] 4 0 0) rfl rfl (e_boxP rfl rfl rfl) ?_
  refine o 49 (I (0)) rfl rfl (e_assign rfl) ?_
  refine s_ops ?_
  refine s_seq rfl ?_
  refine s_reg rfl ?_
  refine o 65 (.agg [I (a_1.Day), I (a_1.Party), str (a_1.Action), I (a_1.Amount)]) rfl rfl (e_ld rfl rfl) ?_
  refine o 81 (.agg [I (b_2.Day), I (b_2.Party), str (b_2.Action), I (b_2.Amount)]) rfl rfl (e_ld rfl rfl) ?_
  obtain ⟨r3, hr3, h⟩ := bS h
  refine o 97 (I (r3)) rfl rfl (e_callV rfl rfl (call_q rfl rfl rfl (avS (shP rfl) (avS (shP rfl) (avN))) (spec_l8Compare_F hr3) rfl rfl rfl)) ?_
  refine o 113 (I (r3)) rfl rfl (e_assign rfl) ?_
  refine s_ops ?_
  obtain rfl := Option.some.inj h
  exact s_ret rfl (fin (vs := [I (r3)]) rfl (absE (absorb_plain rfl) (absEN)) rfl rfl)
noncomputable def spec_CompareEvents_ent : Ent := ⟨[false, false], entF2 (decBy enc_Event) (decBy enc_Event) fun a_1 b_2 => (spec_CompareEvents a_1 b_2).map fun r => (I (r), [])⟩
theorem spec_CompareEvents_F {a_1 : Event} {b_2 : Event} {r : Int} (h : spec_CompareEvents a_1 b_2 = some r) : spec_CompareEvents_ent.F [.agg [I (a_1.Day), I (a_1.Party), str (a_1.Action), I (a_1.Amount)], .agg [I (b_2.Day), I (b_2.Party), str (b_2.Action), I (b_2.Amount)]] = some (I (r), []) := by
  have e : spec_CompareEvents_ent.F [enc_Event a_1, enc_Event b_2] = (spec_CompareEvents a_1 b_2).map fun r => (I (r), []) := by
    simp only [spec_CompareEvents_ent, entF2, decS, dec_ok enc_Event_inj, dec_ok enc_Event_inj, Option.bind_some]
  refine Eq.trans ?_ ((congrArg (Option.map fun r => ((I (r) : V), ([] : List V))) h))
  exact e
theorem spec_CompareEvents_good {G : Ground} (g14 : Good Try.prog G 14 spec_l8Compare_ent) : Good Try.prog G 6 spec_CompareEvents_ent := by
  refine good_of_run (E := spec_CompareEvents_E) (fnOf_good (by
    intro p hp
    simp only [List.mem_cons, List.not_mem_nil, or_false] at hp
    rcases hp with rfl
    · exact g14)) agree_mk (Checked.mixed Try.checked) Try.func6 (c := spec_CompareEvents_c) (n := 2) ⟨rfl, rfl, by decide⟩ ?_
  intro vs r os h
  obtain ⟨v0, v1, a_1, b_2, rfl, q0, q1, h9⟩ := entI2 h
  obtain rfl := dec_of q0
  obtain rfl := dec_of q1
  obtain ⟨r1, hr1, he⟩ := Option.map_eq_some_iff.1 h9
  cases he
  exact ⟨rfl, spec_CompareEvents_run a_1 b_2 r1 hr1⟩
noncomputable def cmp_isNaN_int_c : Code := bodyOf Try.f31
noncomputable def cmp_isNaN_int_E : Env := mkE Try.prog []
def cmp_isNaN_int_Q (x_1 : Int) (r : Bool) (st : St) : Prop := finish cmp_isNaN_int_E Try.f31 [false] (enter Try.f31 [I (x_1)]).1 st = some (B (r), [])
theorem cmp_isNaN_int_run (x_1 : Int) (r : Bool) (h : cmp_isNaN_int x_1 = some r) : Run cmp_isNaN_int_E 0 (cmp_isNaN_int_Q x_1 r) [.code cmp_isNaN_int_c] (enter Try.f31 [I (x_1)]).2 := by
  refine run_at (enter_eq (ys := [I (x_1)]) (R := []) (n := 6) (l := [(0, I (x_1))]) (nx := 1) rfl rfl rfl) ?_
  unfold cmp_isNaN_int at h
  refine s_seq rfl ?_
  refine s_reg rfl ?_
  refine o 17 (B (false)) rfl rfl (e_assign rfl) ?_
  refine s_ops ?_
  refine s_seq rfl ?_
  refine s_reg rfl ?_
  refine o 33 (I (x_1)) rfl rfl (e_move rfl) ?_
  refine o 49 (I (x_1)) rfl rfl (e_move rfl) ?_
  refine o 65 (B ((x_1 != x_1))) rfl rfl (e_bin rfl rfl rfl) ?_
  refine o 81 (B ((x_1 != x_1))) rfl rfl (e_assign rfl) ?_
  refine s_ops ?_
  obtain rfl := Option.some.inj h
  exact s_ret rfl (fin (vs := [B ((x_1 != x_1))]) rfl (absE (absorb_plain rfl) (absEN)) rfl rfl)
noncomputable def cmp_isNaN_int_ent : Ent := ⟨[false], entF1 (decBy I) fun x_1 => (cmp_isNaN_int x_1).map fun r => (B (r), [])⟩
theorem cmp_isNaN_int_F {x_1 : Int} {r : Bool} (h : cmp_isNaN_int x_1 = some r) : cmp_isNaN_int_ent.F [I (x_1)] = some (B (r), []) := by
  have e : cmp_isNaN_int_ent.F [I (x_1)] = (cmp_isNaN_int x_1).map fun r => (B (r), []) := by
    simp only [cmp_isNaN_int_ent, entF1, decS, dec_ok I_inj, Option.bind_some]
  refine Eq.trans ?_ ((congrArg (Option.map fun r => ((B (r) : V), ([] : List V))) h))
  exact e
theorem cmp_isNaN_int_good {G : Ground} : Good Try.prog G 31 cmp_isNaN_int_ent := by
  refine good_of_run (E := cmp_isNaN_int_E) (fnOf_good (by simp)) agree_mk (Checked.mixed Try.checked) Try.func31 (c := cmp_isNaN_int_c) (n := 1) ⟨rfl, rfl, by decide⟩ ?_
  intro vs r os h
  obtain ⟨v0, x_1, rfl, q0, h9⟩ := entI1 h
  obtain rfl := dec_of q0
  obtain ⟨r1, hr1, he⟩ := Option.map_eq_some_iff.1 h9
  cases he
  exact ⟨rfl, cmp_isNaN_int_run x_1 r1 hr1⟩
noncomputable def cmp_Compare_int_c : Code := bodyOf Try.f16
noncomputable def cmp_Compare_int_E : Env := mkE Try.prog [(31, cmp_isNaN_int_ent)]
def cmp_Compare_int_Q (x_1 : Int) (y_2 : Int) (r : Int) (st : St) : Prop := finish cmp_Compare_int_E Try.f16 [false, false] (enter Try.f16 [I (x_1), I (y_2)]).1 st = some (I (r), [])
theorem cmp_Compare_int_run (x_1 : Int) (y_2 : Int) (r : Int) (h : cmp_Compare_int x_1 y_2 = some r) : Run cmp_Compare_int_E 0 (cmp_Compare_int_Q x_1 y_2 r) [.code cmp_Compare_int_c] (enter Try.f16 [I (x_1), I (y_2)]).2 := by
  refine run_at (enter_eq (ys := [I (x_1), I (y_2)]) (R := []) (n := 20) (l := [(0, I (x_1)), (1, I (y_2))]) (nx := 1) rfl rfl rfl) ?_
  unfold cmp_Compare_int at h
  refine s_seq rfl ?_
  refine s_reg rfl ?_
  refine o 17 (I (0)) rfl rfl (e_assign rfl) ?_
  refine s_ops ?_
  refine s_seq rfl ?_
  refine s_reg rfl ?_
  refine o 33 (I (x_1)) rfl rfl (e_move rfl) ?_
  obtain ⟨r3, hr3, h⟩ := bS h
  refine o 49 (B (r3)) rfl rfl (e_callV rfl rfl (call_q rfl rfl rfl (avS (shP rfl) (avN)) (cmp_isNaN_int_F hr3) rfl rfl rfl)) ?_
  refine o 65 (B (r3)) rfl rfl (e_assign rfl) ?_
  refine s_ops ?_
  refine s_seq rfl ?_
  refine s_reg rfl ?_
  refine o 81 (I (y_2)) rfl rfl (e_move rfl) ?_
  obtain ⟨r4, hr4, h⟩ := bS h
  refine o 97 (B (r4)) rfl rfl (e_callV rfl rfl (call_q rfl rfl rfl (avS (shP rfl) (avN)) (cmp_isNaN_int_F hr4) rfl rfl rfl)) ?_
  refine o 113 (B (r4)) rfl rfl (e_assign rfl) ?_
  refine s_ops ?_
  refine s_seq rfl ?_
  refine s_seq rfl ?_
  refine s_reg rfl ?_
  refine o 129 (B (r3)) rfl rfl (e_move rfl) ?_
  refine s_ops ?_
  refine s_cond rfl rfl (fun hb => ?_) (fun hb => ?_)
  · replace h := cT hb h
    refine s_seq rfl ?_
    refine s_seq rfl ?_
    refine s_reg rfl ?_
    refine o 145 (B (r4)) rfl rfl (e_move rfl) ?_
    refine s_ops ?_
    refine s_cond rfl rfl (fun hb => ?_) (fun hb => ?_)
    · replace h := cT hb h
      refine s_seq rfl ?_
      refine s_reg rfl ?_
      refine o 161 (I (0)) rfl rfl (e_assign rfl) ?_
      refine s_ops ?_
      obtain rfl := Option.some.inj h
      exact s_ret rfl (fin (vs := [I (0)]) rfl (absE (absorb_plain rfl) (absEN)) rfl rfl)
    · replace h := cF hb h
      refine s_skip rfl ?_
      refine s_seq rfl ?_
      refine s_reg rfl ?_
      refine o 161 (I ((-1))) rfl rfl (e_assign rfl) ?_
      refine s_ops ?_
      obtain rfl := Option.some.inj h
      exact s_ret rfl (fin (vs := [I ((-1))]) rfl (absE (absorb_plain rfl) (absEN)) rfl rfl)
  · replace h := cF hb h
    refine s_skip rfl ?_
    refine s_seq rfl ?_
    refine s_seq rfl ?_
    refine s_reg rfl ?_
    refine o 145 (B (r4)) rfl rfl (e_move rfl) ?_
    refine s_ops ?_
    refine s_cond rfl rfl (fun hb => ?_) (fun hb => ?_)
    · replace h := cT hb h
      refine s_seq rfl ?_
      refine s_reg rfl ?_
      refine o 161 (I (1)) rfl rfl (e_assign rfl) ?_
      refine s_ops ?_
      obtain rfl := Option.some.inj h
      exact s_ret rfl (fin (vs := [I (1)]) rfl (absE (absorb_plain rfl) (absEN)) rfl rfl)
    · replace h := cF hb h
      refine s_skip rfl ?_
      refine s_seq rfl ?_
      refine s_seq rfl ?_
      refine s_reg rfl ?_
      refine o 161 (I (x_1)) rfl rfl (e_move rfl) ?_
      refine o 177 (I (y_2)) rfl rfl (e_move rfl) ?_
      refine o 193 (B ((decide (x_1 < y_2)))) rfl rfl (e_bin rfl rfl rfl) ?_
      refine s_ops ?_
      refine s_cond rfl rfl (fun hb => ?_) (fun hb => ?_)
      · replace h := cT hb h
        refine s_seq rfl ?_
        refine s_reg rfl ?_
        refine o 209 (I ((-1))) rfl rfl (e_assign rfl) ?_
        refine s_ops ?_
        obtain rfl := Option.some.inj h
        exact s_ret rfl (fin (vs := [I ((-1))]) rfl (absE (absorb_plain rfl) (absEN)) rfl rfl)
      · replace h := cF hb h
        refine s_skip rfl ?_
        refine s_seq rfl ?_
        refine s_seq rfl ?_
        refine s_reg rfl ?_
        refine o 209 (I (x_1)) rfl rfl (e_move rfl) ?_
        refine o 225 (I (y_2)) rfl rfl (e_move rfl) ?_
        refine o 241 (B ((decide (x_1 > y_2)))) rfl rfl (e_bin rfl rfl rfl) ?_
        refine s_ops ?_
        refine s_cond rfl rfl (fun hb => ?_) (fun hb => ?_)
        · replace h := cT hb h
          refine s_seq rfl ?_
          refine s_reg rfl ?_
          refine o 257 (I (1)) rfl rfl (e_assign rfl) ?_
          refine s_ops ?_
          obtain rfl := Option.some.inj h
          exact s_ret rfl (fin (vs := [I (1)]) rfl (absE (absorb_plain rfl) (absEN)) rfl rfl)
        · replace h := cF hb h
          refine s_skip rfl ?_
          refine s_seq rfl ?_
          refine s_reg rfl ?_
          refine o 257 (I (0)) rfl rfl (e_assign rfl) ?_
          refine s_ops ?_
          obtain rfl := Option.some.inj h
          exact s_ret rfl (fin (vs := [I (0)]) rfl (absE (absorb_plain rfl) (absEN)) rfl rfl)
noncomputable def cmp_Compare_int_ent : Ent := ⟨[false, false], entF2 (decBy I) (decBy I) fun x_1 y_2 => (cmp_Compare_int x_1 y_2).map fun r => (I (r), [])⟩
theorem cmp_Compare_int_F {x_1 : Int} {y_2 : Int} {r : Int} (h : cmp_Compare_int x_1 y_2 = some r) : cmp_Compare_int_ent.F [I (x_1), I (y_2)] = some (I (r), []) := by
  have e : cmp_Compare_int_ent.F [I (x_1), I (y_2)] = (cmp_Compare_int x_1 y_2).map fun r => (I (r), []) := by
    simp only [cmp_Compare_int_ent, entF2, decS, dec_ok I_inj, dec_ok I_inj, Option.bind_some]
  refine Eq.trans ?_ ((congrArg (Option.map fun r => ((I (r) : V), ([] : List V))) h))
  exact e
theorem cmp_Compare_int_good {G : Ground} (g31 : Good Try.prog G 31 cmp_isNaN_int_ent) : Good Try.prog G 16 cmp_Compare_int_ent := by
  refine good_of_run (E := cmp_Compare_int_E) (fnOf_good (by
    intro p hp
    simp only [List.mem_cons, List.not_mem_nil, or_false] at hp
    rcases hp with rfl
    · exact g31)) agree_mk (Checked.mixed Try.checked) Try.func16 (c := cmp_Compare_int_c) (n := 2) ⟨rfl, rfl, by decide⟩ ?_
  intro vs r os h
  obtain ⟨v0, v1, x_1, y_2, rfl, q0, q1, h9⟩ := entI2 h
  obtain rfl := dec_of q0
  obtain rfl := dec_of q1
  obtain ⟨r1, hr1, he⟩ := Option.map_eq_some_iff.1 h9
  cases he
  exact ⟨rfl, cmp_Compare_int_run x_1 y_2 r1 hr1⟩
noncomputable def cmp_isNaN_string_c : Code := bodyOf Try.f32
noncomputable def cmp_isNaN_string_E : Env := mkE Try.prog []
def cmp_isNaN_string_Q (x_1 : Str) (r : Bool) (st : St) : Prop := finish cmp_isNaN_string_E Try.f32 [false] (enter Try.f32 [str (x_1)]).1 st = some (B (r), [])
theorem cmp_isNaN_string_run (x_1 : Str) (r : Bool) (h : cmp_isNaN_string x_1 = some r) : Run cmp_isNaN_string_E 0 (cmp_isNaN_string_Q x_1 r) [.code cmp_isNaN_string_c] (enter Try.f32 [str (x_1)]).2 := by
  refine run_at (enter_eq (ys := [str (x_1)]) (R := []) (n := 6) (l := [(0, str (x_1))]) (nx := 1) rfl rfl rfl) ?_
  unfold cmp_isNaN_string at h
  refine s_seq rfl ?_
  refine s_reg rfl ?_
  refine o 17 (B (false)) rfl rfl (e_assign rfl) ?_
  refine s_ops ?_
  refine s_seq rfl ?_
  refine s_reg rfl ?_
  refine o 33 (str (x_1)) rfl rfl (e_move rfl) ?_
  refine o 49 (str (x_1)) rfl rfl (e_move rfl) ?_
  refine o 65 (B ((!(x_1 == x_1)))) rfl rfl (e_bin rfl rfl b_strne) ?_
  refine o 81 (B ((!(x_1 == x_1)))) rfl rfl (e_assign rfl) ?_
  refine s_ops ?_
  obtain rfl := Option.some.inj h
  exact s_ret rfl (fin (vs := [B ((!(x_1 == x_1)))]) rfl (absE (absorb_plain rfl) (absEN)) rfl rfl)
noncomputable def cmp_isNaN_string_ent : Ent := ⟨[false], entF1 (decBy str) fun x_1 => (cmp_isNaN_string x_1).map fun r => (B (r), [])⟩
theorem cmp_isNaN_string_F {x_1 : Str} {r : Bool} (h : cmp_isNaN_string x_1 = some r) : cmp_isNaN_string_ent.F [str (x_1)] = some (B (r), []) := by
  have e : cmp_isNaN_string_ent.F [str (x_1)] = (cmp_isNaN_string x_1).map fun r => (B (r), []) := by
    simp only [cmp_isNaN_string_ent, entF1, decS, dec_ok str_inj, Option.bind_some]
  refine Eq.trans ?_ ((congrArg (Option.map fun r => ((B (r) : V), ([] : List V))) h))
  exact e
theorem cmp_isNaN_string_good {G : Ground} : Good Try.prog G 32 cmp_isNaN_string_ent := by
  refine good_of_run (E := cmp_isNaN_string_E) (fnOf_good (by simp)) agree_mk (Checked.mixed Try.checked) Try.func32 (c := cmp_isNaN_string_c) (n := 1) ⟨rfl, rfl, by decide⟩ ?_
  intro vs r os h
  obtain ⟨v0, x_1, rfl, q0, h9⟩ := entI1 h
  obtain rfl := dec_of q0
  obtain ⟨r1, hr1, he⟩ := Option.map_eq_some_iff.1 h9
  cases he
  exact ⟨rfl, cmp_isNaN_string_run x_1 r1 hr1⟩
noncomputable def cmp_Compare_string_c : Code := bodyOf Try.f17
noncomputable def cmp_Compare_string_E : Env := mkE Try.prog [(32, cmp_isNaN_string_ent)]
def cmp_Compare_string_Q (x_1 : Str) (y_2 : Str) (r : Int) (st : St) : Prop := finish cmp_Compare_string_E Try.f17 [false, false] (enter Try.f17 [str (x_1), str (y_2)]).1 st = some (I (r), [])
theorem cmp_Compare_string_run (x_1 : Str) (y_2 : Str) (r : Int) (h : cmp_Compare_string x_1 y_2 = some r) : Run cmp_Compare_string_E 0 (cmp_Compare_string_Q x_1 y_2 r) [.code cmp_Compare_string_c] (enter Try.f17 [str (x_1), str (y_2)]).2 := by
  refine run_at (enter_eq (ys := [str (x_1), str (y_2)]) (R := []) (n := 20) (l := [(0, str (x_1)), (1, str (y_2))]) (nx := 1) rfl rfl rfl) ?_
  unfold cmp_Compare_string at h
  refine s_seq rfl ?_
  refine s_reg rfl ?_
  refine o 17 (I (0)) rfl rfl (e_assign rfl) ?_
  refine s_ops ?_
  refine s_seq rfl ?_
  refine s_reg rfl ?_
  refine o 33 (str (x_1)) rfl rfl (e_move rfl) ?_
  obtain ⟨r3, hr3, h⟩ := bS h
  refine o 49 (B (r3)) rfl rfl (e_callV rfl rfl (call_q rfl rfl rfl (avS (shP rfl) (avN)) (cmp_isNaN_string_F hr3) rfl rfl rfl)) ?_
  refine o 65 (B (r3)) rfl rfl (e_assign rfl) ?_
  refine s_ops ?_
  refine s_seq rfl ?_
  refine s_reg rfl ?_
  refine o 81 (str (y_2)) rfl rfl (e_move rfl) ?_
  obtain ⟨r4, hr4, h⟩ := bS h
  refine o 97 (B (r4)) rfl rfl (e_callV rfl rfl (call_q rfl rfl rfl (avS (shP rfl) (avN)) (cmp_isNaN_string_F hr4) rfl rfl rfl)) ?_
  refine o 113 (B (r4)) rfl rfl (e_assign rfl) ?_
  refine s_ops ?_
  refine s_seq rfl ?_
  refine s_seq rfl ?_
  refine s_reg rfl ?_
  refine o 129 (B (r3)) rfl rfl (e_move rfl) ?_
  refine s_ops ?_
  refine s_cond rfl rfl (fun hb => ?_) (fun hb => ?_)
  · replace h := cT hb h
    refine s_seq rfl ?_
    refine s_seq rfl ?_
    refine s_reg rfl ?_
    refine o 145 (B (r4)) rfl rfl (e_move rfl) ?_
    refine s_ops ?_
    refine s_cond rfl rfl (fun hb => ?_) (fun hb => ?_)
    · replace h := cT hb h
      refine s_seq rfl ?_
      refine s_reg rfl ?_
      refine o 161 (I (0)) rfl rfl (e_assign rfl) ?_
      refine s_ops ?_
      obtain rfl := Option.some.inj h
      exact s_ret rfl (fin (vs := [I (0)]) rfl (absE (absorb_plain rfl) (absEN)) rfl rfl)
    · replace h := cF hb h
      refine s_skip rfl ?_
      refine s_seq rfl ?_
      refine s_reg rfl ?_
      refine o 161 (I ((-1))) rfl rfl (e_assign rfl) ?_
      refine s_ops ?_
      obtain rfl := Option.some.inj h
      exact s_ret rfl (fin (vs := [I ((-1))]) rfl (absE (absorb_plain rfl) (absEN)) rfl rfl)
  · replace h := cF hb h
    refine s_skip rfl ?_
    refine s_seq rfl ?_
    refine s_seq rfl ?_
    refine s_reg rfl ?_
    refine o 145 (B (r4)) rfl rfl (e_move rfl) ?_
    refine s_ops ?_
    refine s_cond rfl rfl (fun hb => ?_) (fun hb => ?_)
    · replace h := cT hb h
      refine s_seq rfl ?_
      refine s_reg rfl ?_
      refine o 161 (I (1)) rfl rfl (e_assign rfl) ?_
      refine s_ops ?_
      obtain rfl := Option.some.inj h
      exact s_ret rfl (fin (vs := [I (1)]) rfl (absE (absorb_plain rfl) (absEN)) rfl rfl)
    · replace h := cF hb h
      refine s_skip rfl ?_
      refine s_seq rfl ?_
      refine s_seq rfl ?_
      refine s_reg rfl ?_
      refine o 161 (str (x_1)) rfl rfl (e_move rfl) ?_
      refine o 177 (str (y_2)) rfl rfl (e_move rfl) ?_
      refine o 193 (B ((Op.bytesLess x_1 y_2))) rfl rfl (e_bin rfl rfl b_strlt) ?_
      refine s_ops ?_
      refine s_cond rfl rfl (fun hb => ?_) (fun hb => ?_)
      · replace h := cT hb h
        refine s_seq rfl ?_
        refine s_reg rfl ?_
        refine o 209 (I ((-1))) rfl rfl (e_assign rfl) ?_
        refine s_ops ?_
        obtain rfl := Option.some.inj h
        exact s_ret rfl (fin (vs := [I ((-1))]) rfl (absE (absorb_plain rfl) (absEN)) rfl rfl)
      · replace h := cF hb h
        refine s_skip rfl ?_
        refine s_seq rfl ?_
        refine s_seq rfl ?_
        refine s_reg rfl ?_
        refine o 209 (str (x_1)) rfl rfl (e_move rfl) ?_
        refine o 225 (str (y_2)) rfl rfl (e_move rfl) ?_
        refine o 241 (B ((!(Op.bytesLess x_1 y_2 || x_1 == y_2)))) rfl rfl (e_bin rfl rfl b_strgt) ?_
        refine s_ops ?_
        refine s_cond rfl rfl (fun hb => ?_) (fun hb => ?_)
        · replace h := cT hb h
          refine s_seq rfl ?_
          refine s_reg rfl ?_
          refine o 257 (I (1)) rfl rfl (e_assign rfl) ?_
          refine s_ops ?_
          obtain rfl := Option.some.inj h
          exact s_ret rfl (fin (vs := [I (1)]) rfl (absE (absorb_plain rfl) (absEN)) rfl rfl)
        · replace h := cF hb h
          refine s_skip rfl ?_
          refine s_seq rfl ?_
          refine s_reg rfl ?_
          refine o 257 (I (0)) rfl rfl (e_assign rfl) ?_
          refine s_ops ?_
          obtain rfl := Option.some.inj h
          exact s_ret rfl (fin (vs := [I (0)]) rfl (absE (absorb_plain rfl) (absEN)) rfl rfl)
noncomputable def cmp_Compare_string_ent : Ent := ⟨[false, false], entF2 (decBy str) (decBy str) fun x_1 y_2 => (cmp_Compare_string x_1 y_2).map fun r => (I (r), [])⟩
theorem cmp_Compare_string_F {x_1 : Str} {y_2 : Str} {r : Int} (h : cmp_Compare_string x_1 y_2 = some r) : cmp_Compare_string_ent.F [str (x_1), str (y_2)] = some (I (r), []) := by
  have e : cmp_Compare_string_ent.F [str (x_1), str (y_2)] = (cmp_Compare_string x_1 y_2).map fun r => (I (r), []) := by
    simp only [cmp_Compare_string_ent, entF2, decS, dec_ok str_inj, dec_ok str_inj, Option.bind_some]
  refine Eq.trans ?_ ((congrArg (Option.map fun r => ((I (r) : V), ([] : List V))) h))
  exact e
theorem cmp_Compare_string_good {G : Ground} (g32 : Good Try.prog G 32 cmp_isNaN_string_ent) : Good Try.prog G 17 cmp_Compare_string_ent := by
  refine good_of_run (E := cmp_Compare_string_E) (fnOf_good (by
    intro p hp
    simp only [List.mem_cons, List.not_mem_nil, or_false] at hp
    rcases hp with rfl
    · exact g32)) agree_mk (Checked.mixed Try.checked) Try.func17 (c := cmp_Compare_string_c) (n := 2) ⟨rfl, rfl, by decide⟩ ?_
  intro vs r os h
  obtain ⟨v0, v1, x_1, y_2, rfl, q0, q1, h9⟩ := entI2 h
  obtain rfl := dec_of q0
  obtain rfl := dec_of q1
  obtain ⟨r1, hr1, he⟩ := Option.map_eq_some_iff.1 h9
  cases he
  exact ⟨rfl, cmp_Compare_string_run x_1 y_2 r1 hr1⟩
noncomputable def cmp_Or_int_c : Code := bodyOf Try.f15
noncomputable def cmp_Or_int_E : Env := mkE Try.prog []
def cmp_Or_int_Q (vals_1 : List Int) (r : Int) (st : St) : Prop := finish cmp_Or_int_E Try.f15 [false] (enter Try.f15 [.isl false ((vals_1).map I)]).1 st = some (I (r), [])
theorem cmp_Or_int_la_run (vals_1 : List Int)  {Q : St → Prop} {K : List It} (hK : noD K = true) {x2 : Int} {y : Int ⊕ Unit} (h : cmp_Or_int_la vals_1 x2 = some y) : (∀ r', y = .inl r' → ∀ st, cmp_Or_int_Q vals_1 r' st → Q st) → (∀ u : Unit, y = .inr u → Run cmp_Or_int_E 0 Q K ⟨mkTm .dead 18 [(3, I (0))], mkS (rtL [] 1), 1⟩) → Run cmp_Or_int_E 0 Q (.code (cL (cL (cR (cL (cR (cR cmp_Or_int_c)))))) :: .lp (cL (cL (cR (cL (cR (cR cmp_Or_int_c)))))) :: .blk 0 :: K) ⟨mkTm .dead 18 [(3, I (0)), (6, .isl false ((vals_1).map I)), (7, I ((len vals_1))), (8, I (x2))], mkS (rtL [] 1), 1⟩ := by
  refine fix_ind (P := fun (x2 : Int) (y : Int ⊕ Unit) => (∀ r', y = .inl r' → ∀ st, cmp_Or_int_Q vals_1 r' st → Q st) → (∀ u : Unit, y = .inr u → Run cmp_Or_int_E 0 Q K ⟨mkTm .dead 18 [(3, I (0))], mkS (rtL [] 1), 1⟩) → Run cmp_Or_int_E 0 Q (.code (cL (cL (cR (cL (cR (cR cmp_Or_int_c)))))) :: .lp (cL (cL (cR (cL (cR (cR cmp_Or_int_c)))))) :: .blk 0 :: K) ⟨mkTm .dead 18 [(3, I (0)), (6, .isl false ((vals_1).map I)), (7, I ((len vals_1))), (8, I (x2))], mkS (rtL [] 1), 1⟩) (cmp_Or_int_la_fin vals_1) ?_ h
  clear h y x2
  intro self ih x2 y h hr hn
  unfold cmp_Or_int_la_F at h
  refine s_seq rfl ?_
  refine s_reg rfl ?_
  refine o 17 (B ((decide (x2 < (len vals_1))))) rfl rfl (e_bin rfl rfl rfl) ?_
  refine s_ops ?_
  refine s_seq rfl ?_
  refine s_cond rfl rfl (fun hb => ?_) (fun hb => ?_)
  · replace h := cT hb h
    refine s_skip rfl ?_
    refine s_seq rfl ?_
    refine s_block rfl ?_
    refine s_seq rfl ?_
    refine s_reg rfl ?_
    obtain ⟨e3, he3, h⟩ := bS h
    refine o 33 (.iptr (I (e3)) 0) rfl rfl (e_indexAddr rfl rfl rfl (ix_islE rfl rfl rfl rfl he3)) ?_
    refine o 49 (I (e3)) rfl rfl (e_ld rfl rfl) ?_
    refine o 65 (I (e3)) rfl rfl (e_assign rfl) ?_
    refine s_ops ?_
    refine s_seq rfl ?_
    refine s_reg rfl ?_
    refine o 81 (I (e3)) rfl rfl (e_move rfl) ?_
    refine o 97 (I (0)) rfl rfl (e_move rfl) ?_
    refine o 113 (B ((e3 != 0))) rfl rfl (e_bin rfl rfl rfl) ?_
    refine s_ops ?_
    refine s_cond rfl rfl (fun hb => ?_) (fun hb => ?_)
    · replace h := cT hb h
      refine s_seq rfl ?_
      refine s_reg rfl ?_
      refine o 129 (I (e3)) rfl rfl (e_move rfl) ?_
      refine o 145 (I (e3)) rfl rfl (e_assign rfl) ?_
      refine s_ops ?_
      exact s_ret rfl (hr _ (Option.some.inj h).symm _ (fin (vs := [I (e3)]) rfl (absE (absorb_plain rfl) (absEN)) rfl rfl))
    · replace h := cF hb h
      refine s_skip rfl ?_
      refine s_blk ?_
      refine s_reg rfl ?_
      refine o 129 (I ((w64 (x2 + 1)))) rfl rfl (e_bin rfl rfl rfl) ?_
      refine o 145 (I ((w64 (x2 + 1)))) rfl rfl (e_move rfl) ?_
      refine s_ops ?_
      refine s_lp ?_
      refine run_forget [3, 6, 7, 8] [] [] rfl rfl rfl rfl ?_
      exact ih _ _ h hr hn
  · replace h := cF hb h
    refine s_exit rfl rfl ?_
    refine run_forget [3] [] [] rfl rfl rfl hK ?_
    exact hn _ (Option.some.inj h).symm
theorem cmp_Or_int_run (vals_1 : List Int) (r : Int) (h : cmp_Or_int vals_1 = some r) : Run cmp_Or_int_E 0 (cmp_Or_int_Q vals_1 r) [.code cmp_Or_int_c] (enter Try.f15 [.isl false ((vals_1).map I)]).2 := by
  refine run_at (enter_eq (ys := [.isl false ((vals_1).map I)]) (R := []) (n := 18) (l := [(0, .isl false ((vals_1).map I))]) (nx := 1) rfl rfl rfl) ?_
  unfold cmp_Or_int at h
  refine s_seq rfl ?_
  refine s_reg rfl ?_
  refine o 17 (I (0)) rfl rfl (e_assign rfl) ?_
  refine s_ops ?_
  refine s_seq rfl ?_
  refine s_reg rfl ?_
  refine o 33 (I (0)) rfl rfl (e_assign rfl) ?_
  refine s_ops ?_
  refine s_seq rfl ?_
  refine s_seq rfl ?_
  refine s_reg rfl ?_
  refine o 49 (.isl false ((vals_1).map I)) rfl rfl (e_move rfl) ?_
  refine o 65 (I ((len vals_1))) rfl rfl (e_len rfl rfl rfl (l_isl rfl)) ?_
  refine o 81 (I (0)) rfl rfl (e_move rfl) ?_
  refine s_ops ?_
  refine s_block rfl ?_
  obtain ⟨y4, hy4, hy41, hy42⟩ := bJ h
  refine s_loop rfl ?_
  refine run_forget [3, 6, 7, 8] [] [] rfl rfl rfl rfl ?_
  refine cmp_Or_int_la_run vals_1 rfl hy4 (fun r' e st hq => by rw [hy41 r' e] at hq; exact hq) (fun u4 hu => ?_)
  replace h := hy42 u4 hu
  refine s_seq rfl ?_
  refine s_reg rfl ?_
  refine o 17 (I (0)) rfl rfl (e_move rfl) ?_
  refine o 33 (I (0)) rfl rfl (e_assign rfl) ?_
  refine s_ops ?_
  obtain rfl := Option.some.inj h
  exact s_ret rfl (fin (vs := [I (0)]) rfl (absE (absorb_plain rfl) (absEN)) rfl rfl)
noncomputable def cmp_Or_int_ent : Ent := ⟨[false], entF1 (decS I) fun vals_1 => (cmp_Or_int vals_1).map fun r => (I (r), [])⟩
theorem cmp_Or_int_F {vals_1 : List Int} {r : Int} (h : cmp_Or_int vals_1 = some r) : cmp_Or_int_ent.F [.isl false ((vals_1).map I)] = some (I (r), []) := by
  have e : cmp_Or_int_ent.F [.isl false ((vals_1).map I)] = (cmp_Or_int vals_1).map fun r => (I (r), []) := by
    simp only [cmp_Or_int_ent, entF1, decS, dec_ok (isl_inj I_inj), Option.bind_some]
  refine Eq.trans ?_ ((congrArg (Option.map fun r => ((I (r) : V), ([] : List V))) h))
  exact e
theorem cmp_Or_int_good {G : Ground} : Good Try.prog G 15 cmp_Or_int_ent := by
  refine good_of_run (E := cmp_Or_int_E) (fnOf_good (by simp)) agree_mk (Checked.mixed Try.checked) Try.func15 (c := cmp_Or_int_c) (n := 1) ⟨rfl, rfl, by decide⟩ ?_
  intro vs r os h
  obtain ⟨v0, vals_1, rfl, q0, h9⟩ := entI1 h
  obtain rfl := dec_of q0
  obtain ⟨r1, hr1, he⟩ := Option.map_eq_some_iff.1 h9
  cases he
  exact ⟨rfl, cmp_Or_int_run vals_1 r1 hr1⟩
noncomputable def impl_CompareEvents_c : Code := bodyOf Try.f8
noncomputable def impl_CompareEvents_E : Env := mkE Try.prog [(16, cmp_Compare_int_ent), (17, cmp_Compare_string_ent), (15, cmp_Or_int_ent)]
def impl_CompareEvents_Q (a_1 : Event) (b_2 : Event) (r : Int) (st : St) : Prop := finish impl_CompareEvents_E Try.f8 [false, false] (enter Try.f8 [.agg [I (a_1.Day), I (a_1.Party), str (a_1.Action), I (a_1.Amount)], .agg [I (b_2.Day), I (b_2.Party), str (b_2.Action), I (b_2.Amount)]]).1 st = some (I (r), [])
theorem impl_CompareEvents_run (a_1 : Event) (b_2 : Event) (r : Int) (h : impl_CompareEvents a_1 b_2 = some r) : Run impl_CompareEvents_E 0 (impl_CompareEvents_Q a_1 b_2 r) [.code impl_CompareEvents_c] (enter Try.f8 [.agg [I (a_1.Day), I (a_1.Party), str (a_1.Action), I (a_1.Amount)], .agg [I (b_2.Day), I (b_2.Party), str (b_2.Action), I (b_2.Amount)]]).2 := by
  refine run_at (enter_eq (ys := [.agg [I (a_1.Day), I (a_1.Party), str (a_1.Action), I (a_1.Amount)], .agg [I (b_2.Day), I (b_2.Party), str (b_2.Action), I (b_2.Amount)]]) (R := []) (n := 27) (l := [(0, .agg [I (a_1.Day), I (a_1.Party), str (a_1.Action), I (a_1.Amount)]), (1, .agg [I (b_2.Day), I (b_2.Party), str (b_2.Action), I (b_2.Amount)])]) (nx := 1) rfl rfl rfl) ?_
  unfold impl_CompareEvents at h
  refine s_seq rfl ?_
  refine s_reg rfl ?_
  refine o 17 (.hp 1 0 [] 4 0 0) rfl rfl (e_boxP rfl rfl rfl) ?_
  refine o 33 (.hp 17 0 [] 4 0 0) rfl rfl (e_boxP rfl rfl rfl) ?_
  refine o 49 (I (0)) rfl rfl (e_assign rfl) ?_
  refine s_ops ?_
  refine s_seq rfl ?_
  refine s_draw [0, 1, 0, 4, 15, 0, 32, 0, 128, 511, 0, 1024, 0, 4096, 16383, 0, 32768, 0, 131072, 524287, 1048575, 2097151, 4194303] rfl (by decide +kernel) ?_
  refine dp [1] [] (.hp 1 0 [] 4 0 0) rfl (e_fieldAddr rfl rfl rfl) rfl (rfl) (by decide) ?_
  refine dp [1] [] (I (a_1.Day)) rfl (e_ld rfl rfl) rfl (rfl) (by decide) ?_
  refine dp [17] [] (.hp 17 0 [] 4 0 0) rfl (e_fieldAddr rfl rfl rfl) rfl (rfl) (by decide) ?_
  refine dp [17] [] (I (b_2.Day)) rfl (e_ld rfl rfl) rfl (rfl) (by decide) ?_
  obtain ⟨r3, hr3, h⟩ := bS h
  refine dp [] [] (I (r3)) rfl (e_callV rfl rfl (call_q rfl rfl rfl (avS (shP rfl) (avS (shP rfl) (avN))) (cmp_Compare_int_F hr3) rfl rfl rfl)) rfl (w_call rfl rfl rfl rfl (avS (shP rfl) (avS (shP rfl) (avN))) (cmp_Compare_int_F hr3) rfl) (by decide) ?_
  refine dp [1] [] (.hp 1 0 [] 4 0 1) rfl (e_fieldAddr rfl rfl rfl) rfl (rfl) (by decide) ?_
  refine dp [1] [] (I (a_1.Party)) rfl (e_ld rfl rfl) rfl (rfl) (by decide) ?_
  refine dp [17] [] (.hp 17 0 [] 4 0 1) rfl (e_fieldAddr rfl rfl rfl) rfl (rfl) (by decide) ?_
  refine dp [17] [] (I (b_2.Party)) rfl (e_ld rfl rfl) rfl (rfl) (by decide) ?_
  obtain ⟨r4, hr4, h⟩ := bS h
  refine dp [] [] (I (r4)) rfl (e_callV rfl rfl (call_q rfl rfl rfl (avS (shP rfl) (avS (shP rfl) (avN))) (cmp_Compare_int_F hr4) rfl rfl rfl)) rfl (w_call rfl rfl rfl rfl (avS (shP rfl) (avS (shP rfl) (avN))) (cmp_Compare_int_F hr4) rfl) (by decide) ?_
  refine dp [1] [] (.hp 1 0 [] 4 0 2) rfl (e_fieldAddr rfl rfl rfl) rfl (rfl) (by decide) ?_
  refine dp [1] [] (str (a_1.Action)) rfl (e_ld rfl rfl) rfl (rfl) (by decide) ?_
  refine dp [17] [] (.hp 17 0 [] 4 0 2) rfl (e_fieldAddr rfl rfl rfl) rfl (rfl) (by decide) ?_
  refine dp [17] [] (str (b_2.Action)) rfl (e_ld rfl rfl) rfl (rfl) (by decide) ?_
  obtain ⟨r5, hr5, h⟩ := bS h
  refine dp [] [] (I (r5)) rfl (e_callV rfl rfl (call_q rfl rfl rfl (avS (shP rfl) (avS (shP rfl) (avN))) (cmp_Compare_string_F hr5) rfl rfl rfl)) rfl (w_call rfl rfl rfl rfl (avS (shP rfl) (avS (shP rfl) (avN))) (cmp_Compare_string_F hr5) rfl) (by decide) ?_
  refine dp [1] [] (.hp 1 0 [] 4 0 3) rfl (e_fieldAddr rfl rfl rfl) rfl (rfl) (by decide) ?_
  refine dp [1] [] (I (a_1.Amount)) rfl (e_ld rfl rfl) rfl (rfl) (by decide) ?_
  refine dp [17] [] (.hp 17 0 [] 4 0 3) rfl (e_fieldAddr rfl rfl rfl) rfl (rfl) (by decide) ?_
  refine dp [17] [] (I (b_2.Amount)) rfl (e_ld rfl rfl) rfl (rfl) (by decide) ?_
  obtain ⟨r6, hr6, h⟩ := bS h
  refine dp [] [] (I (r6)) rfl (e_callV rfl rfl (call_q rfl rfl rfl (avS (shP rfl) (avS (shP rfl) (avN))) (cmp_Compare_int_F hr6) rfl rfl rfl)) rfl (w_call rfl rfl rfl rfl (avS (shP rfl) (avS (shP rfl) (avN))) (cmp_Compare_int_F hr6) rfl) (by decide) ?_
  refine dp [] [] (.hs 369 0 [] 1 0 4) rfl (e_buildSlice rfl (bs_mk (f := I) (xs := []) (z := I (0)) (es := [I (r3), I (r4), I (r5), I (r6)]) (ws := [I (r3), I (r4), I (r5), I (r6)]) rfl rfl rfl (by decide) rfl (abs_each_plain rfl) rfl)) rfl (rfl) (by decide) ?_
  obtain ⟨r7, hr7, h⟩ := bS h
  refine dp [369] [] (I (r7)) rfl (e_callV rfl rfl (call_q rfl rfl rfl (avS (sh1 rfl rfl (sh_hs (f := I) (g := I) (xs := [r3, r4, r5, r6]) rfl rfl (imms_of I_imm))) (avN)) (cmp_Or_int_F hr7) rfl rfl rfl)) rfl (w_call rfl rfl rfl rfl (avS (sh1 rfl rfl (sh_hs (f := I) (g := I) (xs := [r3, r4, r5, r6]) rfl rfl (imms_of I_imm))) (avN)) (cmp_Or_int_F hr7) rfl) (by decide) ?_
  refine dp [] [] (I (r7)) rfl (e_assign rfl) rfl (rfl) (by decide) ?_
  refine de 417 rfl rfl ?_
  obtain rfl := Option.some.inj h
  exact s_ret rfl (fin (vs := [I (r7)]) rfl (absE (absorb_plain rfl) (absEN)) rfl rfl)
noncomputable def impl_CompareEvents_ent : Ent := ⟨[false, false], entF2 (decBy enc_Event) (decBy enc_Event) fun a_1 b_2 => (impl_CompareEvents a_1 b_2).map fun r => (I (r), [])⟩
theorem impl_CompareEvents_F {a_1 : Event} {b_2 : Event} {r : Int} (h : impl_CompareEvents a_1 b_2 = some r) : impl_CompareEvents_ent.F [.agg [I (a_1.Day), I (a_1.Party), str (a_1.Action), I (a_1.Amount)], .agg [I (b_2.Day), I (b_2.Party), str (b_2.Action), I (b_2.Amount)]] = some (I (r), []) := by
  have e : impl_CompareEvents_ent.F [enc_Event a_1, enc_Event b_2] = (impl_CompareEvents a_1 b_2).map fun r => (I (r), []) := by
    simp only [impl_CompareEvents_ent, entF2, decS, dec_ok enc_Event_inj, dec_ok enc_Event_inj, Option.bind_some]
  refine Eq.trans ?_ ((congrArg (Option.map fun r => ((I (r) : V), ([] : List V))) h))
  exact e
theorem impl_CompareEvents_good {G : Ground} (g16 : Good Try.prog G 16 cmp_Compare_int_ent) (g17 : Good Try.prog G 17 cmp_Compare_string_ent) (g15 : Good Try.prog G 15 cmp_Or_int_ent) : Good Try.prog G 8 impl_CompareEvents_ent := by
  refine good_of_run (E := impl_CompareEvents_E) (fnOf_good (by
    intro p hp
    simp only [List.mem_cons, List.not_mem_nil, or_false] at hp
    rcases hp with rfl | rfl | rfl
    · exact g16
    · exact g17
    · exact g15)) agree_mk (Checked.mixed Try.checked) Try.func8 (c := impl_CompareEvents_c) (n := 2) ⟨rfl, rfl, by decide⟩ ?_
  intro vs r os h
  obtain ⟨v0, v1, a_1, b_2, rfl, q0, q1, h9⟩ := entI2 h
  obtain rfl := dec_of q0
  obtain rfl := dec_of q1
  obtain ⟨r1, hr1, he⟩ := Option.map_eq_some_iff.1 h9
  cases he
  exact ⟨rfl, impl_CompareEvents_run a_1 b_2 r1 hr1⟩
noncomputable def laws_FnExactCompareEvents_c : Code := bodyOf Try.f3
noncomputable def laws_FnExactCompareEvents_E : Env := mkE Try.prog [(5, laws_szEvent_ent), (7, laws_toEvent_ent), (6, spec_CompareEvents_ent), (8, impl_CompareEvents_ent)]
def laws_FnExactCompareEvents_Q (aA_1 : Event) (aB_2 : Event) (r : Bool) (st : St) : Prop := finish laws_FnExactCompareEvents_E Try.f3 [false, false] (enter Try.f3 [.agg [I (aA_1.Day), I (aA_1.Party), str (aA_1.Action), I (aA_1.Amount)], .agg [I (aB_2.Day), I (aB_2.Party), str (aB_2.Action), I (aB_2.Amount)]]).1 st = some (B (r), [])
theorem laws_FnExactCompareEvents_run (aA_1 : Event) (aB_2 : Event) (r : Bool) (h : laws_FnExactCompareEvents aA_1 aB_2 = some r) : Run laws_FnExactCompareEvents_E 0 (laws_FnExactCompareEvents_Q aA_1 aB_2 r) [.code laws_FnExactCompareEvents_c] (enter Try.f3 [.agg [I (aA_1.Day), I (aA_1.Party), str (aA_1.Action), I (aA_1.Amount)], .agg [I (aB_2.Day), I (aB_2.Party), str (aB_2.Action), I (aB_2.Amount)]]).2 := by
  refine run_at (enter_eq (ys := [.agg [I (aA_1.Day), I (aA_1.Party), str (aA_1.Action), I (aA_1.Amount)], .agg [I (aB_2.Day), I (aB_2.Party), str (aB_2.Action), I (aB_2.Amount)]]) (R := []) (n := 31) (l := [(0, .agg [I (aA_1.Day), I (aA_1.Party), str (aA_1.Action), I (aA_1.Amount)]), (1, .agg [I (aB_2.Day), I (aB_2.Party), str (aB_2.Action), I (aB_2.Amount)])]) (nx := 1) rfl rfl rfl) ?_
  unfold laws_FnExactCompareEvents at h
  refine s_seq rfl ?_
  refine s_reg rfl ?_
  refine o 17 (.hp 1 0 [] 4 0 0) rfl rfl (e_boxP rfl rfl rfl) ?_
  refine o 33 (.hp 17 0 [] 4 0 0) rfl rfl (e_boxP rfl rfl rfl) ?_
  refine o 49 (B (false)) rfl rfl (e_assign rfl) ?_
  refine s_ops ?_
  refine s_seq rfl ?_
  refine s_reg rfl ?_
  refine o 65 (I (1048576)) rfl rfl (e_assign rfl) ?_
  refine s_ops ?_
  refine s_seq rfl ?_
  refine s_reg rfl ?_
  refine o 81 (.agg [I (aA_1.Day), I (aA_1.Party), str (aA_1.Action), I (aA_1.Amount)]) rfl rfl (e_ld rfl rfl) ?_
  refine o 97 (I (1048576)) rfl rfl (e_move rfl) ?_
  obtain ⟨r3, hr3, h⟩ := bS h
  refine o 113 (I (r3)) rfl rfl (e_callV rfl rfl (call_q rfl rfl rfl (avS (shP rfl) (avS (shP rfl) (avN))) (laws_szEvent_F hr3) rfl rfl rfl)) ?_
  refine o 129 (I (r3)) rfl rfl (e_assign rfl) ?_
  refine s_ops ?_
  refine s_seq rfl ?_
  refine s_seq rfl ?_
  refine s_reg rfl ?_
  refine o 145 (I (r3)) rfl rfl (e_move rfl) ?_
  refine o 161 (B ((decide (r3 < 0)))) rfl rfl (e_bin rfl rfl rfl) ?_
  refine s_ops ?_
  refine s_cond rfl rfl (fun hb => ?_) (fun hb => ?_)
  · replace h := cT hb h
    refine s_seq rfl ?_
    refine s_reg rfl ?_
    refine o 177 (B (true)) rfl rfl (e_assign rfl) ?_
    refine s_ops ?_
    obtain rfl := Option.some.inj h
    exact s_ret rfl (fin (vs := [B (true)]) rfl (absE (absorb_plain rfl) (absEN)) rfl rfl)
  · replace h := cF hb h
    refine s_skip rfl ?_
    refine s_seq rfl ?_
    refine s_reg rfl ?_
    refine o 177 (.agg [I (aB_2.Day), I (aB_2.Party), str (aB_2.Action), I (aB_2.Amount)]) rfl rfl (e_ld rfl rfl) ?_
    refine o 193 (I (r3)) rfl rfl (e_move rfl) ?_
    obtain ⟨r4, hr4, h⟩ := bS h
    refine o 209 (I (r4)) rfl rfl (e_callV rfl rfl (call_q rfl rfl rfl (avS (shP rfl) (avS (shP rfl) (avN))) (laws_szEvent_F hr4) rfl rfl rfl)) ?_
    refine o 225 (I (r4)) rfl rfl (e_assign rfl) ?_
    refine s_ops ?_
    refine s_seq rfl ?_
    refine s_seq rfl ?_
    refine s_reg rfl ?_
    refine o 241 (I (r4)) rfl rfl (e_move rfl) ?_
    refine o 257 (B ((decide (r4 < 0)))) rfl rfl (e_bin rfl rfl rfl) ?_
    refine s_ops ?_
    refine s_cond rfl rfl (fun hb => ?_) (fun hb => ?_)
    · replace h := cT hb h
      refine s_seq rfl ?_
      refine s_reg rfl ?_
      refine o 273 (B (true)) rfl rfl (e_assign rfl) ?_
      refine s_ops ?_
      obtain rfl := Option.some.inj h
      exact s_ret rfl (fin (vs := [B (true)]) rfl (absE (absorb_plain rfl) (absEN)) rfl rfl)
    · replace h := cF hb h
      refine s_skip rfl ?_
      refine s_seq rfl ?_
      refine s_draw [0, 1, 0, 7, 15, 31] rfl (by decide +kernel) ?_
      refine dp [1] [] (.agg [I (aA_1.Day), I (aA_1.Party), str (aA_1.Action), I (aA_1.Amount)]) rfl (e_ld rfl rfl) rfl (rfl) (by decide) ?_
      obtain ⟨r5, hr5, h⟩ := bS h
      refine dp [] [] (.agg [I (r5.Day), I (r5.Party), str (r5.Action), I (r5.Amount)]) rfl (e_callV rfl rfl (call_q rfl rfl rfl (avS (shP rfl) (avN)) (laws_toEvent_F hr5) rfl rfl rfl)) rfl (w_call rfl rfl rfl rfl (avS (shP rfl) (avN)) (laws_toEvent_F hr5) rfl) (by decide) ?_
      refine dp [17] [] (.agg [I (aB_2.Day), I (aB_2.Party), str (aB_2.Action), I (aB_2.Amount)]) rfl (e_ld rfl rfl) rfl (rfl) (by decide) ?_
      obtain ⟨r6, hr6, h⟩ := bS h
      refine dp [] [] (.agg [I (r6.Day), I (r6.Party), str (r6.Action), I (r6.Amount)]) rfl (e_callV rfl rfl (call_q rfl rfl rfl (avS (shP rfl) (avN)) (laws_toEvent_F hr6) rfl rfl rfl)) rfl (w_call rfl rfl rfl rfl (avS (shP rfl) (avN)) (laws_toEvent_F hr6) rfl) (by decide) ?_
      obtain ⟨r7, hr7, h⟩ := bS h
      refine dp [] [] (I (r7)) rfl (e_callV rfl rfl (call_q rfl rfl rfl (avS (shP rfl) (avS (shP rfl) (avN))) (spec_CompareEvents_F hr7) rfl rfl rfl)) rfl (w_call rfl rfl rfl rfl (avS (shP rfl) (avS (shP rfl) (avN))) (spec_CompareEvents_F hr7) rfl) (by decide) ?_
      refine dp [] [] (I (r7)) rfl (e_assign rfl) rfl (rfl) (by decide) ?_
      refine de 353 rfl rfl ?_
      refine s_seq rfl ?_
      refine s_draw [0, 1, 0, 7, 15, 31] rfl (by decide +kernel) ?_
      refine dp [1] [] (.agg [I (aA_1.Day), I (aA_1.Party), str (aA_1.Action), I (aA_1.Amount)]) rfl (e_ld rfl rfl) rfl (rfl) (by decide) ?_
      obtain ⟨r8, hr8, h⟩ := bS h
      refine dp [] [] (.agg [I (r8.Day), I (r8.Party), str (r8.Action), I (r8.Amount)]) rfl (e_callV rfl rfl (call_q rfl rfl rfl (avS (shP rfl) (avN)) (laws_toEvent_F hr8) rfl rfl rfl)) rfl (w_call rfl rfl rfl rfl (avS (shP rfl) (avN)) (laws_toEvent_F hr8) rfl) (by decide) ?_
      refine dp [17] [] (.agg [I (aB_2.Day), I (aB_2.Party), str (aB_2.Action), I (aB_2.Amount)]) rfl (e_ld rfl rfl) rfl (rfl) (by decide) ?_
      obtain ⟨r9, hr9, h⟩ := bS h
      refine dp [] [] (.agg [I (r9.Day), I (r9.Party), str (r9.Action), I (r9.Amount)]) rfl (e_callV rfl rfl (call_q rfl rfl rfl (avS (shP rfl) (avN)) (laws_toEvent_F hr9) rfl rfl rfl)) rfl (w_call rfl rfl rfl rfl (avS (shP rfl) (avN)) (laws_toEvent_F hr9) rfl) (by decide) ?_
      obtain ⟨r10, hr10, h⟩ := bS h
      refine dp [] [] (I (r10)) rfl (e_callV rfl rfl (call_q rfl rfl rfl (avS (shP rfl) (avS (shP rfl) (avN))) (impl_CompareEvents_F hr10) rfl rfl rfl)) rfl (w_call rfl rfl rfl rfl (avS (shP rfl) (avS (shP rfl) (avN))) (impl_CompareEvents_F hr10) rfl) (by decide) ?_
      refine dp [] [] (I (r10)) rfl (e_assign rfl) rfl (rfl) (by decide) ?_
      refine de 449 rfl rfl ?_
      refine s_seq rfl ?_
      refine s_seq rfl ?_
      refine s_reg rfl ?_
      refine o 465 (I (r10)) rfl rfl (e_move rfl) ?_
      refine o 481 (I (r7)) rfl rfl (e_move rfl) ?_
      refine o 497 (B ((r10 != r7))) rfl rfl (e_bin rfl rfl rfl) ?_
      refine s_ops ?_
      refine s_cond rfl rfl (fun hb => ?_) (fun hb => ?_)
      · replace h := cT hb h
        refine s_seq rfl ?_
        refine s_reg rfl ?_
        refine o 513 (B (false)) rfl rfl (e_assign rfl) ?_
        refine s_ops ?_
        obtain rfl := Option.some.inj h
        exact s_ret rfl (fin (vs := [B (false)]) rfl (absE (absorb_plain rfl) (absEN)) rfl rfl)
      · replace h := cF hb h
        refine s_skip rfl ?_
        refine s_seq rfl ?_
        refine s_reg rfl ?_
        refine o 513 (B (true)) rfl rfl (e_assign rfl) ?_
        refine s_ops ?_
        obtain rfl := Option.some.inj h
        exact s_ret rfl (fin (vs := [B (true)]) rfl (absE (absorb_plain rfl) (absEN)) rfl rfl)
noncomputable def laws_FnExactCompareEvents_ent : Ent := ⟨[false, false], entF2 (decBy enc_Event) (decBy enc_Event) fun aA_1 aB_2 => (laws_FnExactCompareEvents aA_1 aB_2).map fun r => (B (r), [])⟩
theorem laws_FnExactCompareEvents_F {aA_1 : Event} {aB_2 : Event} {r : Bool} (h : laws_FnExactCompareEvents aA_1 aB_2 = some r) : laws_FnExactCompareEvents_ent.F [.agg [I (aA_1.Day), I (aA_1.Party), str (aA_1.Action), I (aA_1.Amount)], .agg [I (aB_2.Day), I (aB_2.Party), str (aB_2.Action), I (aB_2.Amount)]] = some (B (r), []) := by
  have e : laws_FnExactCompareEvents_ent.F [enc_Event aA_1, enc_Event aB_2] = (laws_FnExactCompareEvents aA_1 aB_2).map fun r => (B (r), []) := by
    simp only [laws_FnExactCompareEvents_ent, entF2, decS, dec_ok enc_Event_inj, dec_ok enc_Event_inj, Option.bind_some]
  refine Eq.trans ?_ ((congrArg (Option.map fun r => ((B (r) : V), ([] : List V))) h))
  exact e
theorem laws_FnExactCompareEvents_good {G : Ground} (g5 : Good Try.prog G 5 laws_szEvent_ent) (g7 : Good Try.prog G 7 laws_toEvent_ent) (g6 : Good Try.prog G 6 spec_CompareEvents_ent) (g8 : Good Try.prog G 8 impl_CompareEvents_ent) : Good Try.prog G 3 laws_FnExactCompareEvents_ent := by
  refine good_of_run (E := laws_FnExactCompareEvents_E) (fnOf_good (by
    intro p hp
    simp only [List.mem_cons, List.not_mem_nil, or_false] at hp
    rcases hp with rfl | rfl | rfl | rfl
    · exact g5
    · exact g7
    · exact g6
    · exact g8)) agree_mk (Checked.mixed Try.checked) Try.func3 (c := laws_FnExactCompareEvents_c) (n := 2) ⟨rfl, rfl, by decide⟩ ?_
  intro vs r os h
  obtain ⟨v0, v1, aA_1, aB_2, rfl, q0, q1, h9⟩ := entI2 h
  obtain rfl := dec_of q0
  obtain rfl := dec_of q1
  obtain ⟨r1, hr1, he⟩ := Option.map_eq_some_iff.1 h9
  cases he
  exact ⟨rfl, laws_FnExactCompareEvents_run aA_1 aB_2 r1 hr1⟩
end Go.Ln
