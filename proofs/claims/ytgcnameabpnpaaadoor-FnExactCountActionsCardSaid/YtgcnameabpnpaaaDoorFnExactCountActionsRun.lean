/-
  Each function of the program computes its plain function.
-/
import Derived.Test.YtgcnameabpnpaaaDoorFnExactCountActionsFun
import Derived.Test.YtgcnameabpnpaaaDoorChecked
set_option linter.unusedVariables false
set_option linter.unusedSimpArgs false
set_option maxRecDepth 100000
namespace Go.Ln
open Go Go.Proofs
noncomputable def laws_szEvent_c : Code := bodyOf Tryd.f31
noncomputable def laws_szEvent_E : Env := mkE Tryd.prog []
def laws_szEvent_Q (a_1 : Event) (left_2 : Int) (r : Int) (st : St) : Prop := finish laws_szEvent_E Tryd.f31 [false, false] (enter Tryd.f31 [.agg [I (a_1.Day), I (a_1.Party), str (a_1.Action), I (a_1.Amount)], I (left_2)]).1 st = some (I (r), [])
theorem laws_szEvent_run (a_1 : Event) (left_2 : Int) (r : Int) (h : laws_szEvent a_1 left_2 = some r) : Run laws_szEvent_E 0 (laws_szEvent_Q a_1 left_2 r) [.code laws_szEvent_c] (enter Tryd.f31 [.agg [I (a_1.Day), I (a_1.Party), str (a_1.Action), I (a_1.Amount)], I (left_2)]).2 := by
  refine run_at (enter_eq (ys := [.agg [I (a_1.Day), I (a_1.Party), str (a_1.Action), I (a_1.Amount)], I (left_2)]) (R := []) (n := 13) (l := [(0, .agg [I (a_1.Day), I (a_1.Party), str (a_1.Action), I (a_1.Amount)]), (1, I (left_2))]) (nx := 1) rfl rfl rfl) ?_
  unfold laws_szEvent at h
  refine s_seq rfl ?_
  refine s_reg rfl ?_
  refine o 17 (.hp 1 0 [] 4 0 0) rfl rfl (e_boxP rfl rfl rfl) ?_
  refine o 33 (I (0)) rfl rfl (e_assign rfl) ?_
  refine s_ops ?_
  refine s_seq rfl ?_
  refine s_reg rfl ?_
  refine o 49 (I (left_2)) rfl rfl (e_move rfl) ?_
  refine o 65 (.hp 1 0 [] 4 0 2) rfl rfl (e_fieldAddr rfl rfl rfl) ?_
  refine o 81 (str (a_1.Action)) rfl rfl (e_ld rfl rfl) ?_
  refine o 97 (I ((len a_1.Action))) rfl rfl (e_len rfl rfl rfl (l_str rfl)) ?_
  refine o 113 (I ((w64 (left_2 - (len a_1.Action))))) rfl rfl (e_bin rfl rfl rfl) ?_
  refine o 129 (I ((w64 (left_2 - (len a_1.Action))))) rfl rfl (e_assign rfl) ?_
  refine s_ops ?_
  refine s_seq rfl ?_
  refine s_seq rfl ?_
  refine s_reg rfl ?_
  refine o 145 (I ((w64 (left_2 - (len a_1.Action))))) rfl rfl (e_move rfl) ?_
  refine o 161 (B ((decide ((w64 (left_2 - (len a_1.Action))) < 0)))) rfl rfl (e_bin rfl rfl rfl) ?_
  refine s_ops ?_
  refine s_cond rfl rfl (fun hb => ?_) (fun hb => ?_)
  · replace h := cT hb h
    refine s_seq rfl ?_
    refine s_reg rfl ?_
    refine o 177 (I ((-1))) rfl rfl (e_assign rfl) ?_
    refine s_ops ?_
    obtain rfl := Option.some.inj h
    exact s_ret rfl (fin (vs := [I ((-1))]) rfl (absE (absorb_plain rfl) (absEN)) rfl rfl)
  · replace h := cF hb h
    refine s_skip rfl ?_
    refine s_seq rfl ?_
    refine s_reg rfl ?_
    refine o 177 (I ((w64 (left_2 - (len a_1.Action))))) rfl rfl (e_move rfl) ?_
    refine o 193 (I ((w64 (left_2 - (len a_1.Action))))) rfl rfl (e_assign rfl) ?_
    refine s_ops ?_
    obtain rfl := Option.some.inj h
    exact s_ret rfl (fin (vs := [I ((w64 (left_2 - (len a_1.Action))))]) rfl (absE (absorb_plain rfl) (absEN)) rfl rfl)
noncomputable def laws_szEvent_ent : Ent := ⟨[false, false], entF2 (decBy enc_Event) (decBy I) fun a_1 left_2 => (laws_szEvent a_1 left_2).map fun r => (I (r), [])⟩
theorem laws_szEvent_F {a_1 : Event} {left_2 : Int} {r : Int} (h : laws_szEvent a_1 left_2 = some r) : laws_szEvent_ent.F [.agg [I (a_1.Day), I (a_1.Party), str (a_1.Action), I (a_1.Amount)], I (left_2)] = some (I (r), []) := by
  have e : laws_szEvent_ent.F [enc_Event a_1, I (left_2)] = (laws_szEvent a_1 left_2).map fun r => (I (r), []) := by
    simp only [laws_szEvent_ent, entF2, decS, dec_ok enc_Event_inj, dec_ok I_inj, Option.bind_some]
  refine Eq.trans ?_ ((congrArg (Option.map fun r => ((I (r) : V), ([] : List V))) h))
  exact e
theorem laws_szEvent_good {G : Go.Ln.Ground} : Good Tryd.prog G 31 laws_szEvent_ent := by
  refine good_of_run (E := laws_szEvent_E) (fnOf_good (by simp)) agree_mk (Checked.mixed Tryd.checked) Tryd.func31 (c := laws_szEvent_c) (n := 2) ⟨rfl, rfl, by decide⟩ ?_
  intro vs r os h
  obtain ⟨v0, v1, a_1, left_2, rfl, q0, q1, h9⟩ := entI2 h
  obtain rfl := dec_of q0
  obtain rfl := dec_of q1
  obtain ⟨r1, hr1, he⟩ := Option.map_eq_some_iff.1 h9
  cases he
  exact ⟨rfl, laws_szEvent_run a_1 left_2 r1 hr1⟩
noncomputable def laws_szEventS_c : Code := bodyOf Tryd.f13
noncomputable def laws_szEventS_E : Env := mkE Tryd.prog [(31, laws_szEvent_ent)]
def laws_szEventS_Q (a_1 : List Event) (left_2 : Int) (r : Int) (st : St) : Prop := finish laws_szEventS_E Tryd.f13 [false, false] (enter Tryd.f13 [.isl false ((a_1).map enc_Event), I (left_2)]).1 st = some (I (r), [])
theorem laws_szEventS_la_run (a_1 : List Event) (left_2 : Int)  {Q : St → Prop} {K : List It} (hK : noD K = true) {x3 : Int × Int} {y : Int ⊕ Int} (h : laws_szEventS_la a_1 left_2 x3 = some y) : (∀ r', y = .inl r' → ∀ st, laws_szEventS_Q a_1 left_2 r' st → Q st) → (∀ u : Int, y = .inr u → Run laws_szEventS_E 0 Q K ⟨mkTm .dead 27 [(1, I (u))], mkS (rtL [] 1), 1⟩) → Run laws_szEventS_E 0 Q (.code (cL (cL (cR (cL (cR (cR (cR laws_szEventS_c))))))) :: .lp (cL (cL (cR (cL (cR (cR (cR laws_szEventS_c))))))) :: .blk 0 :: K) ⟨mkTm .dead 27 [(0, .isl false ((a_1).map enc_Event)), (1, I (x3.1)), (5, I (x3.2))], mkS (rtL [] 1), 1⟩ := by
  refine fix_ind (P := fun (x3 : Int × Int) (y : Int ⊕ Int) => (∀ r', y = .inl r' → ∀ st, laws_szEventS_Q a_1 left_2 r' st → Q st) → (∀ u : Int, y = .inr u → Run laws_szEventS_E 0 Q K ⟨mkTm .dead 27 [(1, I (u))], mkS (rtL [] 1), 1⟩) → Run laws_szEventS_E 0 Q (.code (cL (cL (cR (cL (cR (cR (cR laws_szEventS_c))))))) :: .lp (cL (cL (cR (cL (cR (cR (cR laws_szEventS_c))))))) :: .blk 0 :: K) ⟨mkTm .dead 27 [(0, .isl false ((a_1).map enc_Event)), (1, I (x3.1)), (5, I (x3.2))], mkS (rtL [] 1), 1⟩) (laws_szEventS_la_fin a_1 left_2) ?_ h
  clear h y x3
  intro self ih x3 y h hr hn
  unfold laws_szEventS_la_F at h
  refine s_seq rfl ?_
  refine s_seq rfl ?_
  refine s_reg rfl ?_
  refine o 17 (I (x3.2)) rfl rfl (e_move rfl) ?_
  refine o 33 (.isl false ((a_1).map enc_Event)) rfl rfl (e_move rfl) ?_
  refine o 49 (I ((len a_1))) rfl rfl (e_len rfl rfl rfl (l_isl rfl)) ?_
  refine o 65 (B ((decide (x3.2 < (len a_1))))) rfl rfl (e_bin rfl rfl rfl) ?_
  refine s_ops ?_
  refine s_cond rfl rfl (fun hb => ?_) (fun hb => ?_)
  · replace h := cT hb h
    refine s_skip rfl ?_
    refine s_seq rfl ?_
    refine s_block rfl ?_
    refine s_seq rfl ?_
    refine s_reg rfl ?_
    refine o 81 (.isl false ((a_1).map enc_Event)) rfl rfl (e_move rfl) ?_
    refine o 97 (I (x3.2)) rfl rfl (e_move rfl) ?_
    obtain ⟨e4, he4, h⟩ := bS h
    refine o 113 (.iptr (.agg [I (e4.Day), I (e4.Party), str (e4.Action), I (e4.Amount)]) 0) rfl rfl (e_indexAddr rfl rfl rfl (ix_islE rfl rfl rfl rfl he4)) ?_
    refine o 129 (.agg [I (e4.Day), I (e4.Party), str (e4.Action), I (e4.Amount)]) rfl rfl (e_ld rfl rfl) ?_
    refine o 145 (I (x3.1)) rfl rfl (e_move rfl) ?_
    obtain ⟨r5, hr5, h⟩ := bS h
    refine o 161 (I (r5)) rfl rfl (e_callV rfl rfl (call_q rfl rfl rfl (avS (shP rfl) (avS (shP rfl) (avN))) (laws_szEvent_F hr5) rfl rfl rfl)) ?_
    refine o 177 (I (r5)) rfl rfl (e_assign rfl) ?_
    refine s_ops ?_
    refine s_seq rfl ?_
    refine s_reg rfl ?_
    refine o 193 (I (r5)) rfl rfl (e_move rfl) ?_
    refine o 209 (B ((decide (r5 < 0)))) rfl rfl (e_bin rfl rfl rfl) ?_
    refine s_ops ?_
    refine s_cond rfl rfl (fun hb => ?_) (fun hb => ?_)
    · replace h := cT hb h
      refine s_seq rfl ?_
      refine s_reg rfl ?_
      refine o 225 (I ((-1))) rfl rfl (e_assign rfl) ?_
      refine s_ops ?_
      exact s_ret rfl (hr _ (Option.some.inj h).symm _ (fin (vs := [I ((-1))]) rfl (absE (absorb_plain rfl) (absEN)) rfl rfl))
    · replace h := cF hb h
      refine s_skip rfl ?_
      refine s_blk ?_
      refine s_reg rfl ?_
      refine o 225 (I (x3.2)) rfl rfl (e_move rfl) ?_
      refine o 241 (I ((w64 (x3.2 + 1)))) rfl rfl (e_bin rfl rfl rfl) ?_
      refine o 257 (I ((w64 (x3.2 + 1)))) rfl rfl (e_assign rfl) ?_
      refine s_ops ?_
      refine s_lp ?_
      refine run_forget [0, 1, 5] [] [] rfl rfl rfl rfl ?_
      exact ih _ _ h hr hn
  · replace h := cF hb h
    refine s_exit rfl rfl ?_
    refine run_forget [1] [] [] rfl rfl rfl hK ?_
    exact hn _ (Option.some.inj h).symm
theorem laws_szEventS_run (a_1 : List Event) (left_2 : Int) (r : Int) (h : laws_szEventS a_1 left_2 = some r) : Run laws_szEventS_E 0 (laws_szEventS_Q a_1 left_2 r) [.code laws_szEventS_c] (enter Tryd.f13 [.isl false ((a_1).map enc_Event), I (left_2)]).2 := by
  refine run_at (enter_eq (ys := [.isl false ((a_1).map enc_Event), I (left_2)]) (R := []) (n := 27) (l := [(0, .isl false ((a_1).map enc_Event)), (1, I (left_2))]) (nx := 1) rfl rfl rfl) ?_
  unfold laws_szEventS at h
  refine s_seq rfl ?_
  refine s_reg rfl ?_
  refine o 17 (I (0)) rfl rfl (e_assign rfl) ?_
  refine s_ops ?_
  refine s_seq rfl ?_
  refine s_reg rfl ?_
  refine o 33 (I (left_2)) rfl rfl (e_move rfl) ?_
  refine o 49 (.isl false ((a_1).map enc_Event)) rfl rfl (e_move rfl) ?_
  refine o 65 (I ((len a_1))) rfl rfl (e_len rfl rfl rfl (l_isl rfl)) ?_
  refine o 81 (I ((w64 (left_2 - (len a_1))))) rfl rfl (e_bin rfl rfl rfl) ?_
  refine o 97 (I ((w64 (left_2 - (len a_1))))) rfl rfl (e_assign rfl) ?_
  refine s_ops ?_
  refine s_seq rfl ?_
  refine s_seq rfl ?_
  refine s_reg rfl ?_
  refine o 113 (I ((w64 (left_2 - (len a_1))))) rfl rfl (e_move rfl) ?_
  refine o 129 (B ((decide ((w64 (left_2 - (len a_1))) < 0)))) rfl rfl (e_bin rfl rfl rfl) ?_
  refine s_ops ?_
  refine s_cond rfl rfl (fun hb => ?_) (fun hb => ?_)
  · replace h := cT hb h
    refine s_seq rfl ?_
    refine s_reg rfl ?_
    refine o 145 (I ((-1))) rfl rfl (e_assign rfl) ?_
    refine s_ops ?_
    obtain rfl := Option.some.inj h
    exact s_ret rfl (fin (vs := [I ((-1))]) rfl (absE (absorb_plain rfl) (absEN)) rfl rfl)
  · replace h := cF hb h
    refine s_skip rfl ?_
    refine s_seq rfl ?_
    refine s_seq rfl ?_
    refine s_reg rfl ?_
    refine o 145 (I (0)) rfl rfl (e_assign rfl) ?_
    refine s_ops ?_
    refine s_block rfl ?_
    obtain ⟨y6, hy6, hy61, hy62⟩ := bJ h
    refine s_loop rfl ?_
    refine run_forget [0, 1, 5] [] [] rfl rfl rfl rfl ?_
    refine laws_szEventS_la_run a_1 left_2 rfl hy6 (fun r' e st hq => by rw [hy61 r' e] at hq; exact hq) (fun u6 hu => ?_)
    replace h := hy62 u6 hu
    refine s_seq rfl ?_
    refine s_reg rfl ?_
    refine o 17 (I (u6)) rfl rfl (e_move rfl) ?_
    refine o 33 (I (u6)) rfl rfl (e_assign rfl) ?_
    refine s_ops ?_
    obtain rfl := Option.some.inj h
    exact s_ret rfl (fin (vs := [I (u6)]) rfl (absE (absorb_plain rfl) (absEN)) rfl rfl)
noncomputable def laws_szEventS_ent : Ent := ⟨[false, false], entF2 (decS enc_Event) (decBy I) fun a_1 left_2 => (laws_szEventS a_1 left_2).map fun r => (I (r), [])⟩
theorem laws_szEventS_F {a_1 : List Event} {left_2 : Int} {r : Int} (h : laws_szEventS a_1 left_2 = some r) : laws_szEventS_ent.F [.isl false ((a_1).map enc_Event), I (left_2)] = some (I (r), []) := by
  have e : laws_szEventS_ent.F [.isl false ((a_1).map enc_Event), I (left_2)] = (laws_szEventS a_1 left_2).map fun r => (I (r), []) := by
    simp only [laws_szEventS_ent, entF2, decS, dec_ok (isl_inj enc_Event_inj), dec_ok I_inj, Option.bind_some]
  refine Eq.trans ?_ ((congrArg (Option.map fun r => ((I (r) : V), ([] : List V))) h))
  exact e
theorem laws_szEventS_good {G : Go.Ln.Ground} (g31 : Good Tryd.prog G 31 laws_szEvent_ent) : Good Tryd.prog G 13 laws_szEventS_ent := by
  refine good_of_run (E := laws_szEventS_E) (fnOf_good (by
    intro p hp
    simp only [List.mem_cons, List.not_mem_nil, or_false] at hp
    rcases hp with rfl
    · exact g31)) agree_mk (Checked.mixed Tryd.checked) Tryd.func13 (c := laws_szEventS_c) (n := 2) ⟨rfl, rfl, by decide⟩ ?_
  intro vs r os h
  obtain ⟨v0, v1, a_1, left_2, rfl, q0, q1, h9⟩ := entI2 h
  obtain rfl := dec_of q0
  obtain rfl := dec_of q1
  obtain ⟨r1, hr1, he⟩ := Option.map_eq_some_iff.1 h9
  cases he
  exact ⟨rfl, laws_szEventS_run a_1 left_2 r1 hr1⟩
noncomputable def laws_toEvent_c : Code := bodyOf Tryd.f34
noncomputable def laws_toEvent_E : Env := mkE Tryd.prog []
def laws_toEvent_Q (a_1 : Event) (r : Event) (st : St) : Prop := finish laws_toEvent_E Tryd.f34 [false] (enter Tryd.f34 [.agg [I (a_1.Day), I (a_1.Party), str (a_1.Action), I (a_1.Amount)]]).1 st = some (.agg [I (r.Day), I (r.Party), str (r.Action), I (r.Amount)], [])
theorem laws_toEvent_run (a_1 : Event) (r : Event) (h : laws_toEvent a_1 = some r) : Run laws_toEvent_E 0 (laws_toEvent_Q a_1 r) [.code laws_toEvent_c] (enter Tryd.f34 [.agg [I (a_1.Day), I (a_1.Party), str (a_1.Action), I (a_1.Amount)]]).2 := by
  refine run_at (enter_eq (ys := [.agg [I (a_1.Day), I (a_1.Party), str (a_1.Action), I (a_1.Amount)]]) (R := []) (n := 17) (l := [(0, .agg [I (a_1.Day), I (a_1.Party), str (a_1.Action), I (a_1.Amount)])]) (nx := 1) rfl rfl rfl) ?_
  unfold laws_toEvent at h
  refine s_seq rfl ?_
  refine s_reg rfl ?_
  refine o 17 (.hp 1 0 [] 4 0 0) rfl rfl (e_boxP rfl rfl rfl) ?_
  refine o 33 (.hp 17 0 [] 4 0 0) rfl rfl (e_allocP (z := .agg [I (0), I (0), str ([]), I (0)]) rfl rfl rfl) ?_
  refine s_ops ?_
  refine s_seq rfl ?_
  refine s_reg rfl ?_
  refine o 49 (.hp 33 0 [] 4 0 0) rfl rfl (e_allocP (z := .agg [I (0), I (0), str ([]), I (0)]) rfl rfl rfl) ?_
  refine s_ops ?_
  refine s_seq rfl ?_
  refine s_reg rfl ?_
  refine o 65 (.hp 1 0 [] 4 0 0) rfl rfl (e_fieldAddr rfl rfl rfl) ?_
  refine o 81 (I (a_1.Day)) rfl rfl (e_ld rfl rfl) ?_
  refine o 97 (.hp 33 0 [] 4 0 0) rfl rfl (e_fieldAddr rfl rfl rfl) ?_
  refine o0 113 rfl rfl (e_st rfl rfl (st_at (path := []) (pl := true) (e' := .agg [I (a_1.Day), I (0), str ([]), I (0)]) (es2' := [.agg [I (a_1.Day), I (0), str ([]), I (0)]]) rfl (absorb_plain rfl) rfl rfl rfl (ra_n) rfl rfl rfl rfl rfl (sr_n) 0 rfl)) ?_
  refine s_ops ?_
  refine s_seq rfl ?_
  refine s_reg rfl ?_
  refine o 129 (.hp 1 0 [] 4 0 1) rfl rfl (e_fieldAddr rfl rfl rfl) ?_
  refine o 145 (I (a_1.Party)) rfl rfl (e_ld rfl rfl) ?_
  refine o 161 (.hp 33 0 [] 4 0 1) rfl rfl (e_fieldAddr rfl rfl rfl) ?_
  refine o0 177 rfl rfl (e_st rfl rfl (st_at (path := []) (pl := true) (e' := .agg [I (a_1.Day), I (a_1.Party), str ([]), I (0)]) (es2' := [.agg [I (a_1.Day), I (a_1.Party), str ([]), I (0)]]) rfl (absorb_plain rfl) rfl rfl rfl (ra_n) rfl rfl rfl rfl rfl (sr_n) 0 rfl)) ?_
  refine s_ops ?_
  refine s_seq rfl ?_
  refine s_reg rfl ?_
  refine o 193 (.hp 1 0 [] 4 0 2) rfl rfl (e_fieldAddr rfl rfl rfl) ?_
  refine o 209 (str (a_1.Action)) rfl rfl (e_ld rfl rfl) ?_
  refine o 225 (.hp 33 0 [] 4 0 2) rfl rfl (e_fieldAddr rfl rfl rfl) ?_
  refine o0 241 rfl rfl (e_st rfl rfl (st_at (path := []) (pl := true) (e' := .agg [I (a_1.Day), I (a_1.Party), str (a_1.Action), I (0)]) (es2' := [.agg [I (a_1.Day), I (a_1.Party), str (a_1.Action), I (0)]]) rfl (absorb_plain rfl) rfl rfl rfl (ra_n) rfl rfl rfl rfl rfl (sr_n) 0 rfl)) ?_
  refine s_ops ?_
  refine s_seq rfl ?_
  refine s_reg rfl ?_
  refine o 257 (.hp 1 0 [] 4 0 3) rfl rfl (e_fieldAddr rfl rfl rfl) ?_
  refine o 273 (I (a_1.Amount)) rfl rfl (e_ld rfl rfl) ?_
  refine o 289 (.hp 33 0 [] 4 0 3) rfl rfl (e_fieldAddr rfl rfl rfl) ?_
  refine o0 305 rfl rfl (e_st rfl rfl (st_at (path := []) (pl := true) (e' := .agg [I (a_1.Day), I (a_1.Party), str (a_1.Action), I (a_1.Amount)]) (es2' := [.agg [I (a_1.Day), I (a_1.Party), str (a_1.Action), I (a_1.Amount)]]) rfl (absorb_plain rfl) rfl rfl rfl (ra_n) rfl rfl rfl rfl rfl (sr_n) 0 rfl)) ?_
  refine s_ops ?_
  refine s_seq rfl ?_
  refine s_reg rfl ?_
  refine o 321 (.agg [I (a_1.Day), I (a_1.Party), str (a_1.Action), I (a_1.Amount)]) rfl rfl (e_ld rfl rfl) ?_
  refine o0 337 rfl rfl (e_st rfl rfl (st_at (path := []) (pl := true) (e' := .agg [I (a_1.Day), I (a_1.Party), str (a_1.Action), I (a_1.Amount)]) (es2' := [.agg [I (a_1.Day), I (a_1.Party), str (a_1.Action), I (a_1.Amount)]]) rfl (absorb_plain rfl) rfl rfl rfl (ra_n) rfl rfl rfl rfl rfl (sr_n) 0 rfl)) ?_
  refine s_ops ?_
  obtain rfl := Option.some.inj h
  exact s_ret rfl (fin (vs := [.agg [I (a_1.Day), I (a_1.Party), str (a_1.Action), I (a_1.Amount)]]) (rs_c (rs_cell rfl rfl rfl) (rs_n)) (absE (absorb_plain rfl) (absEN)) rfl rfl)
noncomputable def laws_toEvent_ent : Ent := ⟨[false], entF1 (decBy enc_Event) fun a_1 => (laws_toEvent a_1).map fun r => (.agg [I (r.Day), I (r.Party), str (r.Action), I (r.Amount)], [])⟩
theorem laws_toEvent_F {a_1 : Event} {r : Event} (h : laws_toEvent a_1 = some r) : laws_toEvent_ent.F [.agg [I (a_1.Day), I (a_1.Party), str (a_1.Action), I (a_1.Amount)]] = some (.agg [I (r.Day), I (r.Party), str (r.Action), I (r.Amount)], []) := by
  have e : laws_toEvent_ent.F [enc_Event a_1] = (laws_toEvent a_1).map fun r => (.agg [I (r.Day), I (r.Party), str (r.Action), I (r.Amount)], []) := by
    simp only [laws_toEvent_ent, entF1, decS, dec_ok enc_Event_inj, Option.bind_some]
  refine Eq.trans ?_ ((congrArg (Option.map fun r => ((.agg [I (r.Day), I (r.Party), str (r.Action), I (r.Amount)] : V), ([] : List V))) h))
  exact e
theorem laws_toEvent_good {G : Go.Ln.Ground} : Good Tryd.prog G 34 laws_toEvent_ent := by
  refine good_of_run (E := laws_toEvent_E) (fnOf_good (by simp)) agree_mk (Checked.mixed Tryd.checked) Tryd.func34 (c := laws_toEvent_c) (n := 1) ⟨rfl, rfl, by decide⟩ ?_
  intro vs r os h
  obtain ⟨v0, a_1, rfl, q0, h9⟩ := entI1 h
  obtain rfl := dec_of q0
  obtain ⟨r1, hr1, he⟩ := Option.map_eq_some_iff.1 h9
  cases he
  exact ⟨rfl, laws_toEvent_run a_1 r1 hr1⟩
noncomputable def laws_toEventS_c : Code := bodyOf Tryd.f15
noncomputable def laws_toEventS_E : Env := mkE Tryd.prog [(34, laws_toEvent_ent)]
def laws_toEventS_Q (a_1 : List Event) (r : (List Event)) (st : St) : Prop := finish laws_toEventS_E Tryd.f15 [false] (enter Tryd.f15 [.isl false ((a_1).map enc_Event)]).1 st = some (.usl 4 ((r).map enc_Event), [])
theorem laws_toEventS_la_run (a_1 : List Event)  {Q : St → Prop} {K : List It} (hK : noD K = true) {x3 : Int × (List Event)} {y : ((List Event)) ⊕ ((List Event))} (h : laws_toEventS_la a_1 x3 = some y) : (∀ r', y = .inl r' → ∀ st, laws_toEventS_Q a_1 r' st → Q st) → (∀ u : (List Event), y = .inr u → Run laws_toEventS_E 0 Q K ⟨mkTm .dead 23 [(3, .hs 1 0 [] 4 0 (u).length)], mkS (rtL [⟨0, 4, (u).map enc_Event⟩] 1), 2⟩) → Run laws_toEventS_E 0 Q (.code (cL (cL (cR (cL (cR (cR laws_toEventS_c)))))) :: .lp (cL (cL (cR (cL (cR (cR laws_toEventS_c)))))) :: .blk 0 :: K) ⟨mkTm .dead 23 [(0, .isl false ((a_1).map enc_Event)), (3, .hs 1 0 [] 4 0 (x3.2).length), (4, I (x3.1))], mkS (rtL [⟨0, 4, (x3.2).map enc_Event⟩] 1), 2⟩ := by
  refine fix_ind (P := fun (x3 : Int × (List Event)) (y : ((List Event)) ⊕ ((List Event))) => (∀ r', y = .inl r' → ∀ st, laws_toEventS_Q a_1 r' st → Q st) → (∀ u : (List Event), y = .inr u → Run laws_toEventS_E 0 Q K ⟨mkTm .dead 23 [(3, .hs 1 0 [] 4 0 (u).length)], mkS (rtL [⟨0, 4, (u).map enc_Event⟩] 1), 2⟩) → Run laws_toEventS_E 0 Q (.code (cL (cL (cR (cL (cR (cR laws_toEventS_c)))))) :: .lp (cL (cL (cR (cL (cR (cR laws_toEventS_c)))))) :: .blk 0 :: K) ⟨mkTm .dead 23 [(0, .isl false ((a_1).map enc_Event)), (3, .hs 1 0 [] 4 0 (x3.2).length), (4, I (x3.1))], mkS (rtL [⟨0, 4, (x3.2).map enc_Event⟩] 1), 2⟩) (laws_toEventS_la_fin a_1) ?_ h
  clear h y x3
  intro self ih x3 y h hr hn
  unfold laws_toEventS_la_F at h
  refine s_seq rfl ?_
  refine s_seq rfl ?_
  refine s_reg rfl ?_
  refine o 18 (I (x3.1)) rfl rfl (e_move rfl) ?_
  refine o 34 (.isl false ((a_1).map enc_Event)) rfl rfl (e_move rfl) ?_
  refine o 50 (I ((len a_1))) rfl rfl (e_len rfl rfl rfl (l_isl rfl)) ?_
  refine o 66 (B ((decide (x3.1 < (len a_1))))) rfl rfl (e_bin rfl rfl rfl) ?_
  refine s_ops ?_
  refine s_cond rfl rfl (fun hb => ?_) (fun hb => ?_)
  · replace h := cT hb h
    refine s_skip rfl ?_
    refine s_seq rfl ?_
    refine s_block rfl ?_
    refine s_reg rfl ?_
    refine o 82 (.hs 1 0 [] 4 0 (x3.2).length) rfl rfl (e_move rfl) ?_
    refine o 98 (I (x3.1)) rfl rfl (e_move rfl) ?_
    refine o 114 (.isl false ((a_1).map enc_Event)) rfl rfl (e_move rfl) ?_
    refine o 130 (I (x3.1)) rfl rfl (e_move rfl) ?_
    obtain ⟨e4, he4, h⟩ := bS h
    refine o 146 (.iptr (.agg [I (e4.Day), I (e4.Party), str (e4.Action), I (e4.Amount)]) 0) rfl rfl (e_indexAddr rfl rfl rfl (ix_islE rfl rfl rfl rfl he4)) ?_
    refine o 162 (.agg [I (e4.Day), I (e4.Party), str (e4.Action), I (e4.Amount)]) rfl rfl (e_ld rfl rfl) ?_
    obtain ⟨r5, hr5, h⟩ := bS h
    refine o 178 (.agg [I (r5.Day), I (r5.Party), str (r5.Action), I (r5.Amount)]) rfl rfl (e_callV rfl rfl (call_q rfl rfl rfl (avS (shP rfl) (avN)) (laws_toEvent_F hr5) rfl rfl rfl)) ?_
    obtain ⟨e6, he6, h⟩ := bS h
    refine o 194 (.hp 1 0 [] 4 (0 + Int.toNat (x3.1)) 0) rfl rfl (e_indexAddr rfl rfl rfl (ix_hs (xs := x3.2) rfl rfl rfl he6)) ?_
    refine o0 210 rfl rfl (e_st rfl rfl (st_at (path := []) (pl := true) (e' := .agg [I (r5.Day), I (r5.Party), str (r5.Action), I (r5.Amount)]) (es2' := ((setI x3.2 x3.1 r5)).map enc_Event) rfl (absorb_plain rfl) rfl rfl rfl (ra_n) (get_map (f := enc_Event) (xs := x3.2) he6) rfl rfl rfl (set_map (f := enc_Event) (xs := x3.2) (y := r5)) (sr_n) 0 rfl)) ?_
    try rw [← len_setI (xs := x3.2) (i := x3.1) (y := r5)]
    refine s_ops ?_
    refine s_blk ?_
    refine s_reg rfl ?_
    refine o 226 (I (x3.1)) rfl rfl (e_move rfl) ?_
    refine o 242 (I ((w64 (x3.1 + 1)))) rfl rfl (e_bin rfl rfl rfl) ?_
    refine o 258 (I ((w64 (x3.1 + 1)))) rfl rfl (e_assign rfl) ?_
    refine s_ops ?_
    refine s_lp ?_
    refine run_forget [0, 3, 4] [1] [⟨0, 4, ((setI x3.2 x3.1 r5)).map enc_Event⟩] rfl rfl rfl rfl ?_
    exact ih _ _ h hr hn
  · replace h := cF hb h
    refine s_exit rfl rfl ?_
    refine run_forget [3] [1] [⟨0, 4, (x3.2).map enc_Event⟩] rfl rfl rfl hK ?_
    exact hn _ (Option.some.inj h).symm
theorem laws_toEventS_run (a_1 : List Event) (r : (List Event)) (h : laws_toEventS a_1 = some r) : Run laws_toEventS_E 0 (laws_toEventS_Q a_1 r) [.code laws_toEventS_c] (enter Tryd.f15 [.isl false ((a_1).map enc_Event)]).2 := by
  refine run_at (enter_eq (ys := [.isl false ((a_1).map enc_Event)]) (R := []) (n := 23) (l := [(0, .isl false ((a_1).map enc_Event))]) (nx := 1) rfl rfl rfl) ?_
  unfold laws_toEventS at h
  refine s_seq rfl ?_
  refine s_reg rfl ?_
  refine o 17 (.isl true []) rfl rfl (e_assign rfl) ?_
  refine s_ops ?_
  refine s_seq rfl ?_
  refine s_reg rfl ?_
  refine o 33 (.isl false ((a_1).map enc_Event)) rfl rfl (e_move rfl) ?_
  refine o 49 (I ((len a_1))) rfl rfl (e_len rfl rfl rfl (l_isl rfl)) ?_
  obtain ⟨m2, hm2, h⟩ := bS h
  refine o 65 (.hs 49 0 [] 4 0 (m2).length) rfl rfl (e_makeSlice rfl rfl (ms_mk (f := enc_Event) rfl rfl rfl (by decide) hm2 rfl)) ?_
  refine o 81 (.hs 49 0 [] 4 0 (m2).length) rfl rfl (e_assign rfl) ?_
  refine s_ops ?_
  refine s_seq rfl ?_
  refine s_seq rfl ?_
  refine s_reg rfl ?_
  refine o 97 (I (0)) rfl rfl (e_assign rfl) ?_
  refine s_ops ?_
  refine s_block rfl ?_
  obtain ⟨y7, hy7, hy71, hy72⟩ := bJ h
  refine s_loop rfl ?_
  refine run_forget [0, 3, 4] [49] [⟨0, 4, (m2).map enc_Event⟩] rfl rfl rfl rfl ?_
  refine laws_toEventS_la_run a_1 rfl hy7 (fun r' e st hq => by rw [hy71 r' e] at hq; exact hq) (fun u7 hu => ?_)
  replace h := hy72 u7 hu
  refine s_seq rfl ?_
  refine s_reg rfl ?_
  refine o 18 (.hs 1 0 [] 4 0 (u7).length) rfl rfl (e_move rfl) ?_
  refine o 34 (.hs 1 0 [] 4 0 (u7).length) rfl rfl (e_assign rfl) ?_
  refine s_ops ?_
  obtain rfl := Option.some.inj h
  exact s_ret rfl (fin (vs := [.hs 1 0 [] 4 0 (u7).length]) rfl (absE (abs1 rfl (abs_hs rfl (List.length_map ..).symm)) (absEN)) rfl rfl)
noncomputable def laws_toEventS_ent : Ent := ⟨[false], entF1 (decS enc_Event) fun a_1 => (laws_toEventS a_1).map fun r => (.usl 4 ((r).map enc_Event), [])⟩
theorem laws_toEventS_F {a_1 : List Event} {r : (List Event)} (h : laws_toEventS a_1 = some r) : laws_toEventS_ent.F [.isl false ((a_1).map enc_Event)] = some (.usl 4 ((r).map enc_Event), []) := by
  have e : laws_toEventS_ent.F [.isl false ((a_1).map enc_Event)] = (laws_toEventS a_1).map fun r => (.usl 4 ((r).map enc_Event), []) := by
    simp only [laws_toEventS_ent, entF1, decS, dec_ok (isl_inj enc_Event_inj), Option.bind_some]
  refine Eq.trans ?_ ((congrArg (Option.map fun r => ((.usl 4 ((r).map enc_Event) : V), ([] : List V))) h))
  exact e
theorem laws_toEventS_good {G : Go.Ln.Ground} (g34 : Good Tryd.prog G 34 laws_toEvent_ent) : Good Tryd.prog G 15 laws_toEventS_ent := by
  refine good_of_run (E := laws_toEventS_E) (fnOf_good (by
    intro p hp
    simp only [List.mem_cons, List.not_mem_nil, or_false] at hp
    rcases hp with rfl
    · exact g34)) agree_mk (Checked.mixed Tryd.checked) Tryd.func15 (c := laws_toEventS_c) (n := 1) ⟨rfl, rfl, by decide⟩ ?_
  intro vs r os h
  obtain ⟨v0, a_1, rfl, q0, h9⟩ := entI1 h
  obtain rfl := dec_of q0
  obtain ⟨r1, hr1, he⟩ := Option.map_eq_some_iff.1 h9
  cases he
  exact ⟨rfl, laws_toEventS_run a_1 r1 hr1⟩
noncomputable def spec_l8Compare_c : Code := bodyOf Tryd.f77
noncomputable def spec_l8Compare_E : Env := mkE Tryd.prog []
def spec_l8Compare_Q (a_1 : Event) (b_2 : Event) (r : Int) (st : St) : Prop := finish spec_l8Compare_E Tryd.f77 [false, false] (enter Tryd.f77 [.agg [I (a_1.Day), I (a_1.Party), str (a_1.Action), I (a_1.Amount)], .agg [I (b_2.Day), I (b_2.Party), str (b_2.Action), I (b_2.Amount)]]).1 st = some (I (r), [])
theorem spec_l8Compare_run (a_1 : Event) (b_2 : Event) (r : Int) (h : spec_l8Compare a_1 b_2 = some r) : Run spec_l8Compare_E 0 (spec_l8Compare_Q a_1 b_2 r) [.code spec_l8Compare_c] (enter Tryd.f77 [.agg [I (a_1.Day), I (a_1.Party), str (a_1.Action), I (a_1.Amount)], .agg [I (b_2.Day), I (b_2.Party), str (b_2.Action), I (b_2.Amount)]]).2 := by
  refine run_at (enter_eq (ys := [.agg [I (a_1.Day), I (a_1.Party), str (a_1.Action), I (a_1.Amount)], .agg [I (b_2.Day), I (b_2.Party), str (b_2.Action), I (b_2.Amount)]]) (R := []) (n := 51) (l := [(0, .agg [I (a_1.Day), I (a_1.Party), str (a_1.Action), I (a_1.Amount)]), (1, .agg [I (b_2.Day), I (b_2.Party), str (b_2.Action), I (b_2.Amount)])]) (nx := 1) rfl rfl rfl) ?_
  unfold spec_l8Compare at h
  refine s_seq rfl ?_
  refine s_reg rfl ?_
  refine o 17 (.hp 1 0 [] 4 0 0) rfl rfl (e_boxP rfl rfl rfl) ?_
  refine o 33 (.hp 17 0 [] 4 0 0) rfl rfl (e_boxP rfl rfl rfl) ?_
  refine o 49 (I (0)) rfl rfl (e_assign rfl) ?_
  refine s_ops ?_
  refine s_seq rfl ?_
  refine s_draw [0, 1, 0, 4, 3, 31] rfl (by decide +kernel) ?_
  refine dp [1] [] (.hp 1 0 [] 4 0 3) rfl (e_fieldAddr rfl rfl rfl) rfl (rfl) (by decide) ?_
  refine dp [1] [] (I (a_1.Amount)) rfl (e_ld rfl rfl) rfl (rfl) (by decide) ?_
  refine dp [17] [] (.hp 17 0 [] 4 0 3) rfl (e_fieldAddr rfl rfl rfl) rfl (rfl) (by decide) ?_
  refine dp [17] [] (I (b_2.Amount)) rfl (e_ld rfl rfl) rfl (rfl) (by decide) ?_
  refine dp [] [] (I (a_1.Amount)) rfl (e_assign rfl) rfl (rfl) (by decide) ?_
  refine dp [] [] (I (b_2.Amount)) rfl (e_assign rfl) rfl (rfl) (by decide) ?_
  refine de 145 rfl rfl ?_
  refine s_seq rfl ?_
  refine s_block rfl ?_
  refine s_seq rfl ?_
  refine s_reg rfl ?_
  refine o 161 (.hp 1 0 [] 4 0 0) rfl rfl (e_fieldAddr rfl rfl rfl) ?_
  refine o 177 (I (a_1.Day)) rfl rfl (e_ld rfl rfl) ?_
  refine o 193 (.hp 17 0 [] 4 0 0) rfl rfl (e_fieldAddr rfl rfl rfl) ?_
  refine o 209 (I (b_2.Day)) rfl rfl (e_ld rfl rfl) ?_
  refine o 225 (B ((a_1.Day != b_2.Day))) rfl rfl (e_bin rfl rfl rfl) ?_
  refine o 241 (B ((a_1.Day != b_2.Day))) rfl rfl (e_assign rfl) ?_
  refine s_ops ?_
  obtain ⟨y3, hy3, hy31, hy32⟩ := bJ h
  have j3 : ∀ u3, y3 = .inr u3 → Run spec_l8Compare_E 0 (spec_l8Compare_Q a_1 b_2 r) (.blk 0 :: .code (cR (cR (cR spec_l8Compare_c))) :: []) ⟨mkTm .dead 51 [(5, I (u3.1)), (6, I (u3.2))], mkS (rtL [] 1), 1⟩ := by
    intro u3 hu
    replace h := hy32 u3 hu
    refine s_blk ?_
    refine s_seq rfl ?_
    refine s_block rfl ?_
    refine s_seq rfl ?_
    refine s_reg rfl ?_
    refine o 17 (I (u3.1)) rfl rfl (e_move rfl) ?_
    refine o 33 (I (u3.2)) rfl rfl (e_move rfl) ?_
    refine o 49 (B ((decide (u3.1 < u3.2)))) rfl rfl (e_bin rfl rfl rfl) ?_
    refine o 65 (B ((decide (u3.1 < u3.2)))) rfl rfl (e_assign rfl) ?_
    refine s_ops ?_
    refine s_cond rfl rfl (fun hb => ?_) (fun hb => ?_)
    · replace h := cT hb h
      refine s_seq rfl ?_
      refine s_reg rfl ?_
      refine o 81 (I ((-1))) rfl rfl (e_assign rfl) ?_
      refine s_ops ?_
      obtain rfl := Option.some.inj h
      exact s_ret rfl (fin (vs := [I ((-1))]) rfl (absE (absorb_plain rfl) (absEN)) rfl rfl)
    · replace h := cF hb h
      refine s_seq rfl ?_
      refine s_reg rfl ?_
      refine o 81 (I (u3.1)) rfl rfl (e_move rfl) ?_
      refine o 97 (I (u3.2)) rfl rfl (e_move rfl) ?_
      refine o 113 (B ((decide (u3.1 > u3.2)))) rfl rfl (e_bin rfl rfl rfl) ?_
      refine o 129 (B ((decide (u3.1 > u3.2)))) rfl rfl (e_assign rfl) ?_
      refine s_ops ?_
      refine s_cond rfl rfl (fun hb => ?_) (fun hb => ?_)
      · replace h := cT hb h
        refine s_seq rfl ?_
        refine s_reg rfl ?_
        refine o 145 (I (1)) rfl rfl (e_assign rfl) ?_
        refine s_ops ?_
        obtain rfl := Option.some.inj h
        exact s_ret rfl (fin (vs := [I (1)]) rfl (absE (absorb_plain rfl) (absEN)) rfl rfl)
      · replace h := cF hb h
        refine s_skip rfl ?_
        refine s_blk ?_
        refine s_seq rfl ?_
        refine s_reg rfl ?_
        refine o 145 (I (0)) rfl rfl (e_assign rfl) ?_
        refine s_ops ?_
        obtain rfl := Option.some.inj h
        exact s_ret rfl (fin (vs := [I (0)]) rfl (absE (absorb_plain rfl) (absEN)) rfl rfl)
  have r3 : ∀ r', y3 = .inl r' → ∀ st, spec_l8Compare_Q a_1 b_2 r' st → (spec_l8Compare_Q a_1 b_2 r) st := fun r' e st hq => by rw [hy31 r' e] at hq; exact hq
  replace h := hy3
  refine s_cond rfl rfl (fun hb => ?_) (fun hb => ?_)
  · replace h := cT hb h
    refine s_seq rfl ?_
    refine s_reg rfl ?_
    refine o 257 (.hp 1 0 [] 4 0 0) rfl rfl (e_fieldAddr rfl rfl rfl) ?_
    refine o 273 (I (a_1.Day)) rfl rfl (e_ld rfl rfl) ?_
    refine o 289 (I (a_1.Day)) rfl rfl (e_assign rfl) ?_
    refine s_ops ?_
    refine s_reg rfl ?_
    refine o 305 (.hp 17 0 [] 4 0 0) rfl rfl (e_fieldAddr rfl rfl rfl) ?_
    refine o 321 (I (b_2.Day)) rfl rfl (e_ld rfl rfl) ?_
    refine o 337 (I (b_2.Day)) rfl rfl (e_assign rfl) ?_
    refine s_ops ?_
    refine run_forget [5, 6] [] [] rfl rfl rfl rfl ?_
    exact j3 _ (Option.some.inj h).symm
  · replace h := cF hb h
    refine s_seq rfl ?_
    refine s_reg rfl ?_
    refine o 257 (.hp 1 0 [] 4 0 1) rfl rfl (e_fieldAddr rfl rfl rfl) ?_
    refine o 273 (I (a_1.Party)) rfl rfl (e_ld rfl rfl) ?_
    refine o 289 (.hp 17 0 [] 4 0 1) rfl rfl (e_fieldAddr rfl rfl rfl) ?_
    refine o 305 (I (b_2.Party)) rfl rfl (e_ld rfl rfl) ?_
    refine o 321 (B ((a_1.Party != b_2.Party))) rfl rfl (e_bin rfl rfl rfl) ?_
    refine o 337 (B ((a_1.Party != b_2.Party))) rfl rfl (e_assign rfl) ?_
    refine s_ops ?_
    obtain ⟨y4, hy4, hy41, hy42⟩ := bL h
    have j4 : ∀ u4, y4 = .inr u4 → Run spec_l8Compare_E 0 (spec_l8Compare_Q a_1 b_2 r) (.blk 0 :: .code (cR (cR (cR spec_l8Compare_c))) :: []) ⟨mkTm .dead 51 [(5, I (u4.1)), (6, I (u4.2))], mkS (rtL [] 1), 1⟩ := by
      intro u4 hu
      replace h := hy42 u4 hu
      refine run_forget [5, 6] [] [] rfl rfl rfl rfl ?_
      exact j3 _ (Option.some.inj h).symm
    have r4 : ∀ r', y4 = .inl r' → ∀ st, spec_l8Compare_Q a_1 b_2 r' st → (spec_l8Compare_Q a_1 b_2 r) st := fun r' e st hq => r3 r' (hy41 r' e) st hq
    replace h := hy4
    refine s_cond rfl rfl (fun hb => ?_) (fun hb => ?_)
    · replace h := cT hb h
      refine s_seq rfl ?_
      refine s_reg rfl ?_
      refine o 353 (.hp 1 0 [] 4 0 1) rfl rfl (e_fieldAddr rfl rfl rfl) ?_
      refine o 369 (I (a_1.Party)) rfl rfl (e_ld rfl rfl) ?_
      refine o 385 (I (a_1.Party)) rfl rfl (e_assign rfl) ?_
      refine s_ops ?_
      refine s_reg rfl ?_
      refine o 401 (.hp 17 0 [] 4 0 1) rfl rfl (e_fieldAddr rfl rfl rfl) ?_
      refine o 417 (I (b_2.Party)) rfl rfl (e_ld rfl rfl) ?_
      refine o 433 (I (b_2.Party)) rfl rfl (e_assign rfl) ?_
      refine s_ops ?_
      refine run_forget [5, 6] [] [] rfl rfl rfl rfl ?_
      exact j4 _ (Option.some.inj h).symm
    · replace h := cF hb h
      refine s_seq rfl ?_
      refine s_reg rfl ?_
      refine o 353 (.hp 1 0 [] 4 0 2) rfl rfl (e_fieldAddr rfl rfl rfl) ?_
      refine o 369 (str (a_1.Action)) rfl rfl (e_ld rfl rfl) ?_
      refine o 385 (.hp 17 0 [] 4 0 2) rfl rfl (e_fieldAddr rfl rfl rfl) ?_
      refine o 401 (str (b_2.Action)) rfl rfl (e_ld rfl rfl) ?_
      refine o 417 (B ((Op.bytesLess a_1.Action b_2.Action))) rfl rfl (e_bin rfl rfl b_strlt) ?_
      refine o 433 (B ((Op.bytesLess a_1.Action b_2.Action))) rfl rfl (e_assign rfl) ?_
      refine s_ops ?_
      refine s_cond rfl rfl (fun hb => ?_) (fun hb => ?_)
      · replace h := cT hb h
        refine s_seq rfl ?_
        refine s_reg rfl ?_
        refine o 449 (I ((-1))) rfl rfl (e_assign rfl) ?_
        refine s_ops ?_
        exact s_ret rfl (r4 _ (Option.some.inj h).symm _ (fin (vs := [I ((-1))]) rfl (absE (absorb_plain rfl) (absEN)) rfl rfl))
      · replace h := cF hb h
        refine s_seq rfl ?_
        refine s_reg rfl ?_
        refine o 449 (.hp 1 0 [] 4 0 2) rfl rfl (e_fieldAddr rfl rfl rfl) ?_
        refine o 465 (str (a_1.Action)) rfl rfl (e_ld rfl rfl) ?_
        refine o 481 (.hp 17 0 [] 4 0 2) rfl rfl (e_fieldAddr rfl rfl rfl) ?_
        refine o 497 (str (b_2.Action)) rfl rfl (e_ld rfl rfl) ?_
        refine o 513 (B ((!(Op.bytesLess a_1.Action b_2.Action || a_1.Action == b_2.Action)))) rfl rfl (e_bin rfl rfl b_strgt) ?_
        refine o 529 (B ((!(Op.bytesLess a_1.Action b_2.Action || a_1.Action == b_2.Action)))) rfl rfl (e_assign rfl) ?_
        refine s_ops ?_
        refine s_cond rfl rfl (fun hb => ?_) (fun hb => ?_)
        · replace h := cT hb h
          refine s_seq rfl ?_
          refine s_reg rfl ?_
          refine o 545 (I (1)) rfl rfl (e_assign rfl) ?_
          refine s_ops ?_
          exact s_ret rfl (r4 _ (Option.some.inj h).symm _ (fin (vs := [I (1)]) rfl (absE (absorb_plain rfl) (absEN)) rfl rfl))
        · replace h := cF hb h
          refine s_skip rfl ?_
          refine run_forget [5, 6] [] [] rfl rfl rfl rfl ?_
          exact j4 _ (Option.some.inj h).symm
noncomputable def spec_l8Compare_ent : Ent := ⟨[false, false], entF2 (decBy enc_Event) (decBy enc_Event) fun a_1 b_2 => (spec_l8Compare a_1 b_2).map fun r => (I (r), [])⟩
theorem spec_l8Compare_F {a_1 : Event} {b_2 : Event} {r : Int} (h : spec_l8Compare a_1 b_2 = some r) : spec_l8Compare_ent.F [.agg [I (a_1.Day), I (a_1.Party), str (a_1.Action), I (a_1.Amount)], .agg [I (b_2.Day), I (b_2.Party), str (b_2.Action), I (b_2.Amount)]] = some (I (r), []) := by
  have e : spec_l8Compare_ent.F [enc_Event a_1, enc_Event b_2] = (spec_l8Compare a_1 b_2).map fun r => (I (r), []) := by
    simp only [spec_l8Compare_ent, entF2, decS, dec_ok enc_Event_inj, dec_ok enc_Event_inj, Option.bind_some]
  refine Eq.trans ?_ ((congrArg (Option.map fun r => ((I (r) : V), ([] : List V))) h))
  exact e
theorem spec_l8Compare_good {G : Go.Ln.Ground} : Good Tryd.prog G 77 spec_l8Compare_ent := by
  refine good_of_run (E := spec_l8Compare_E) (fnOf_good (by simp)) agree_mk (Checked.mixed Tryd.checked) Tryd.func77 (c := spec_l8Compare_c) (n := 2) ⟨rfl, rfl, by decide⟩ ?_
  intro vs r os h
  obtain ⟨v0, v1, a_1, b_2, rfl, q0, q1, h9⟩ := entI2 h
  obtain rfl := dec_of q0
  obtain rfl := dec_of q1
  obtain ⟨r1, hr1, he⟩ := Option.map_eq_some_iff.1 h9
  cases he
  exact ⟨rfl, spec_l8Compare_run a_1 b_2 r1 hr1⟩
noncomputable def spec_l1In_c : Code := bodyOf Tryd.f54
noncomputable def spec_l1In_E : Env := mkE Tryd.prog []
def spec_l1In_Q (x_1 : Int) (a_2 : Int) (b_3 : Int) (r : Bool) (st : St) : Prop := finish spec_l1In_E Tryd.f54 [false, false, false] (enter Tryd.f54 [I (x_1), I (a_2), I (b_3)]).1 st = some (B (r), [])
theorem spec_l1In_run (x_1 : Int) (a_2 : Int) (b_3 : Int) (r : Bool) (h : spec_l1In x_1 a_2 b_3 = some r) : Run spec_l1In_E 0 (spec_l1In_Q x_1 a_2 b_3 r) [.code spec_l1In_c] (enter Tryd.f54 [I (x_1), I (a_2), I (b_3)]).2 := by
  refine run_at (enter_eq (ys := [I (x_1), I (a_2), I (b_3)]) (R := []) (n := 15) (l := [(0, I (x_1)), (1, I (a_2)), (2, I (b_3))]) (nx := 1) rfl rfl rfl) ?_
  unfold spec_l1In at h
  refine s_seq rfl ?_
  refine s_reg rfl ?_
  refine o 17 (B (false)) rfl rfl (e_assign rfl) ?_
  refine s_ops ?_
  refine s_seq rfl ?_
  refine s_reg rfl ?_
  refine o 33 (I (x_1)) rfl rfl (e_move rfl) ?_
  refine o 49 (I (a_2)) rfl rfl (e_move rfl) ?_
  refine o 65 (B ((decide (x_1 ≥ a_2)))) rfl rfl (e_bin rfl rfl rfl) ?_
  refine o 81 (B ((decide (x_1 ≥ a_2)))) rfl rfl (e_move rfl) ?_
  obtain ⟨u4, hu4, h⟩ := lJ h
  have j4 : Run spec_l1In_E 0 (spec_l1In_Q x_1 a_2 b_3 r) (.code (cR (cR spec_l1In_c)) :: []) ⟨mkTm .dead 15 [(6, B (u4))], mkS (rtL [] 1), 1⟩ := by
    obtain rfl := Option.some.inj h
    exact s_ret rfl (fin (vs := [B (u4)]) rfl (absE (absorb_plain rfl) (absEN)) rfl rfl)
  replace h := hu4
  clear hu4
  refine r_split (b := (decide (x_1 ≥ a_2))) 10 rfl (fun hb => ?_) (fun hb => ?_)
  · replace h := cTp hb h
    refine og 97 (I (x_1)) rfl rfl rfl rfl (e_move rfl) ?_
    refine og 113 (I (b_3)) rfl rfl rfl rfl (e_move rfl) ?_
    refine og 129 (B ((decide (x_1 ≤ b_3)))) rfl rfl rfl rfl (e_bin rfl rfl rfl) ?_
    refine o 145 (B ((decide (x_1 ≤ b_3)))) rfl rfl (e_pickT rfl rfl) ?_
    refine o 161 (B ((decide (x_1 ≤ b_3)))) rfl rfl (e_assign rfl) ?_
    refine s_ops ?_
    refine run_forget [6] [] [] rfl rfl rfl rfl ?_
    subst h
    exact j4
  · replace h := cFp hb h
    refine os 97 rfl rfl rfl rfl ?_
    refine os 113 rfl rfl rfl rfl ?_
    refine os 129 rfl rfl rfl rfl ?_
    refine o 145 (B (false)) rfl rfl (e_pickF rfl rfl) ?_
    refine o 161 (B (false)) rfl rfl (e_assign rfl) ?_
    refine s_ops ?_
    refine run_forget [6] [] [] rfl rfl rfl rfl ?_
    subst h
    exact j4
noncomputable def spec_l1In_ent : Ent := ⟨[false, false, false], entF3 (decBy I) (decBy I) (decBy I) fun x_1 a_2 b_3 => (spec_l1In x_1 a_2 b_3).map fun r => (B (r), [])⟩
theorem spec_l1In_F {x_1 : Int} {a_2 : Int} {b_3 : Int} {r : Bool} (h : spec_l1In x_1 a_2 b_3 = some r) : spec_l1In_ent.F [I (x_1), I (a_2), I (b_3)] = some (B (r), []) := by
  have e : spec_l1In_ent.F [I (x_1), I (a_2), I (b_3)] = (spec_l1In x_1 a_2 b_3).map fun r => (B (r), []) := by
    simp only [spec_l1In_ent, entF3, decS, dec_ok I_inj, dec_ok I_inj, dec_ok I_inj, Option.bind_some]
  refine Eq.trans ?_ ((congrArg (Option.map fun r => ((B (r) : V), ([] : List V))) h))
  exact e
theorem spec_l1In_good {G : Go.Ln.Ground} : Good Tryd.prog G 54 spec_l1In_ent := by
  refine good_of_run (E := spec_l1In_E) (fnOf_good (by simp)) agree_mk (Checked.mixed Tryd.checked) Tryd.func54 (c := spec_l1In_c) (n := 3) ⟨rfl, rfl, by decide⟩ ?_
  intro vs r os h
  obtain ⟨v0, v1, v2, x_1, a_2, b_3, rfl, q0, q1, q2, h9⟩ := entI3 h
  obtain rfl := dec_of q0
  obtain rfl := dec_of q1
  obtain rfl := dec_of q2
  obtain ⟨r1, hr1, he⟩ := Option.map_eq_some_iff.1 h9
  cases he
  exact ⟨rfl, spec_l1In_run x_1 a_2 b_3 r1 hr1⟩
noncomputable def spec_l3Good_c : Code := bodyOf Tryd.f85
noncomputable def spec_l3Good_E : Env := mkE Tryd.prog [(54, spec_l1In_ent)]
def spec_l3Good_Q (day_1 : Int) (r : Bool) (st : St) : Prop := finish spec_l3Good_E Tryd.f85 [false] (enter Tryd.f85 [I (day_1)]).1 st = some (B (r), [])
theorem spec_l3Good_run (day_1 : Int) (r : Bool) (h : spec_l3Good day_1 = some r) : Run spec_l3Good_E 0 (spec_l3Good_Q day_1 r) [.code spec_l3Good_c] (enter Tryd.f85 [I (day_1)]).2 := by
  refine run_at (enter_eq (ys := [I (day_1)]) (R := []) (n := 5) (l := [(0, I (day_1))]) (nx := 1) rfl rfl rfl) ?_
  unfold spec_l3Good at h
  refine s_seq rfl ?_
  refine s_reg rfl ?_
  refine o 17 (B (false)) rfl rfl (e_assign rfl) ?_
  refine s_ops ?_
  refine s_seq rfl ?_
  refine s_reg rfl ?_
  refine o 33 (I (day_1)) rfl rfl (e_move rfl) ?_
  obtain ⟨r2, hr2, h⟩ := bS h
  refine o 49 (B (r2)) rfl rfl (e_callV rfl rfl (call_q rfl rfl rfl (avS (shP rfl) (avS (shP rfl) (avS (shP rfl) (avN)))) (spec_l1In_F hr2) rfl rfl rfl)) ?_
  refine o 65 (B (r2)) rfl rfl (e_assign rfl) ?_
  refine s_ops ?_
  obtain rfl := Option.some.inj h
  exact s_ret rfl (fin (vs := [B (r2)]) rfl (absE (absorb_plain rfl) (absEN)) rfl rfl)
noncomputable def spec_l3Good_ent : Ent := ⟨[false], entF1 (decBy I) fun day_1 => (spec_l3Good day_1).map fun r => (B (r), [])⟩
theorem spec_l3Good_F {day_1 : Int} {r : Bool} (h : spec_l3Good day_1 = some r) : spec_l3Good_ent.F [I (day_1)] = some (B (r), []) := by
  have e : spec_l3Good_ent.F [I (day_1)] = (spec_l3Good day_1).map fun r => (B (r), []) := by
    simp only [spec_l3Good_ent, entF1, decS, dec_ok I_inj, Option.bind_some]
  refine Eq.trans ?_ ((congrArg (Option.map fun r => ((B (r) : V), ([] : List V))) h))
  exact e
theorem spec_l3Good_good {G : Go.Ln.Ground} (g54 : Good Tryd.prog G 54 spec_l1In_ent) : Good Tryd.prog G 85 spec_l3Good_ent := by
  refine good_of_run (E := spec_l3Good_E) (fnOf_good (by
    intro p hp
    simp only [List.mem_cons, List.not_mem_nil, or_false] at hp
    rcases hp with rfl
    · exact g54)) agree_mk (Checked.mixed Tryd.checked) Tryd.func85 (c := spec_l3Good_c) (n := 1) ⟨rfl, rfl, by decide⟩ ?_
  intro vs r os h
  obtain ⟨v0, day_1, rfl, q0, h9⟩ := entI1 h
  obtain rfl := dec_of q0
  obtain ⟨r1, hr1, he⟩ := Option.map_eq_some_iff.1 h9
  cases he
  exact ⟨rfl, spec_l3Good_run day_1 r1 hr1⟩
noncomputable def spec_l5Sign_c : Code := bodyOf Tryd.f105
noncomputable def spec_l5Sign_E : Env := mkE Tryd.prog []
def spec_l5Sign_Q (b_1 : Int) (r : Bool) (st : St) : Prop := finish spec_l5Sign_E Tryd.f105 [false] (enter Tryd.f105 [.int .u8 (b_1)]).1 st = some (B (r), [])
theorem spec_l5Sign_run (b_1 : Int) (r : Bool) (h : spec_l5Sign b_1 = some r) : Run spec_l5Sign_E 0 (spec_l5Sign_Q b_1 r) [.code spec_l5Sign_c] (enter Tryd.f105 [.int .u8 (b_1)]).2 := by
  refine run_at (enter_eq (ys := [.int .u8 (b_1)]) (R := []) (n := 17) (l := [(0, .int .u8 (b_1))]) (nx := 1) rfl rfl rfl) ?_
  unfold spec_l5Sign at h
  refine s_seq rfl ?_
  refine s_reg rfl ?_
  refine o 17 (B (false)) rfl rfl (e_assign rfl) ?_
  refine s_ops ?_
  refine s_seq rfl ?_
  refine s_reg rfl ?_
  refine o 33 (.int .u8 (b_1)) rfl rfl (e_move rfl) ?_
  refine o 49 (B ((decide (b_1 ≥ 97)))) rfl rfl (e_bin rfl rfl rfl) ?_
  refine o 65 (B ((decide (b_1 ≥ 97)))) rfl rfl (e_move rfl) ?_
  obtain ⟨u2, hu2, h⟩ := lJ h
  have j2 : Run spec_l5Sign_E 0 (spec_l5Sign_Q b_1 r) (.code (cR (cR spec_l5Sign_c)) :: []) ⟨mkTm .dead 17 [(2, B (u2))], mkS (rtL [] 1), 1⟩ := by
    obtain rfl := Option.some.inj h
    exact s_ret rfl (fin (vs := [B (u2)]) rfl (absE (absorb_plain rfl) (absEN)) rfl rfl)
  replace h := hu2
  clear hu2
  refine r_split (b := (decide (b_1 ≥ 97))) 5 rfl (fun hb => ?_) (fun hb => ?_)
  · replace h := cTp hb h
    refine og 81 (.int .u8 (b_1)) rfl rfl rfl rfl (e_move rfl) ?_
    refine og 97 (B ((decide (b_1 ≤ 122)))) rfl rfl rfl rfl (e_bin rfl rfl rfl) ?_
    refine o 113 (B ((decide (b_1 ≤ 122)))) rfl rfl (e_pickT rfl rfl) ?_
    refine o 129 (B ((decide (b_1 ≤ 122)))) rfl rfl (e_move rfl) ?_
    obtain ⟨u3, hu3, h⟩ := lJ h
    have j3 : Run spec_l5Sign_E 0 (spec_l5Sign_Q b_1 r) (.code (cR (cR spec_l5Sign_c)) :: []) ⟨mkTm .dead 17 [(2, B (u3))], mkS (rtL [] 1), 1⟩ := by
      refine run_forget [2] [] [] rfl rfl rfl rfl ?_
      subst h
      exact j2
    replace h := hu3
    clear hu3
    refine r_split (b := (decide (b_1 ≤ 122))) 9 rfl (fun hb => ?_) (fun hb => ?_)
    · replace h := cTp hb h
      refine os 145 rfl rfl rfl rfl ?_
      refine os 161 rfl rfl rfl rfl ?_
      refine os 177 rfl rfl rfl rfl ?_
      refine os 193 rfl rfl rfl rfl ?_
      refine os 209 rfl rfl rfl rfl ?_
      refine os 225 rfl rfl rfl rfl ?_
      refine o 241 (B (true)) rfl rfl (e_pickT rfl rfl) ?_
      refine o 257 (B (true)) rfl rfl (e_assign rfl) ?_
      refine s_ops ?_
      refine run_forget [2] [] [] rfl rfl rfl rfl ?_
      subst h
      exact j3
    · replace h := cFp hb h
      refine og 145 (.int .u8 (b_1)) rfl rfl rfl rfl (e_move rfl) ?_
      refine og 161 (B ((decide (b_1 ≥ 48)))) rfl rfl rfl rfl (e_bin rfl rfl rfl) ?_
      refine og 177 (B ((decide (b_1 ≥ 48)))) rfl rfl rfl rfl (e_move rfl) ?_
      obtain ⟨u4, hu4, h⟩ := lJ h
      have j4 : Run spec_l5Sign_E 0 (spec_l5Sign_Q b_1 r) (.code (cR (cR spec_l5Sign_c)) :: []) ⟨mkTm .dead 17 [(2, B (u4))], mkS (rtL [] 1), 1⟩ := by
        refine run_forget [2] [] [] rfl rfl rfl rfl ?_
        subst h
        exact j3
      replace h := hu4
      clear hu4
      refine r_split (b := (decide (b_1 ≥ 48))) 12 rfl (fun hb => ?_) (fun hb => ?_)
      · replace h := cTp hb h
        refine og 193 (.int .u8 (b_1)) rfl rfl rfl rfl (e_move rfl) ?_
        refine og 209 (B ((decide (b_1 ≤ 57)))) rfl rfl rfl rfl (e_bin rfl rfl rfl) ?_
        refine og 225 (B ((decide (b_1 ≤ 57)))) rfl rfl rfl rfl (e_pickT rfl rfl) ?_
        refine o 241 (B ((decide (b_1 ≤ 57)))) rfl rfl (e_pickF rfl rfl) ?_
        refine o 257 (B ((decide (b_1 ≤ 57)))) rfl rfl (e_assign rfl) ?_
        refine s_ops ?_
        refine run_forget [2] [] [] rfl rfl rfl rfl ?_
        subst h
        exact j4
      · replace h := cFp hb h
        refine os 193 rfl rfl rfl rfl ?_
        refine os 209 rfl rfl rfl rfl ?_
        refine og 225 (B (false)) rfl rfl rfl rfl (e_pickF rfl rfl) ?_
        refine o 241 (B (false)) rfl rfl (e_pickF rfl rfl) ?_
        refine o 257 (B (false)) rfl rfl (e_assign rfl) ?_
        refine s_ops ?_
        refine run_forget [2] [] [] rfl rfl rfl rfl ?_
        subst h
        exact j4
  · replace h := cFp hb h
    refine os 81 rfl rfl rfl rfl ?_
    refine os 97 rfl rfl rfl rfl ?_
    refine o 113 (B (false)) rfl rfl (e_pickF rfl rfl) ?_
    refine o 129 (B (false)) rfl rfl (e_move rfl) ?_
    refine og 145 (.int .u8 (b_1)) rfl rfl rfl rfl (e_move rfl) ?_
    refine og 161 (B ((decide (b_1 ≥ 48)))) rfl rfl rfl rfl (e_bin rfl rfl rfl) ?_
    refine og 177 (B ((decide (b_1 ≥ 48)))) rfl rfl rfl rfl (e_move rfl) ?_
    obtain ⟨u5, hu5, h⟩ := lJ h
    have j5 : Run spec_l5Sign_E 0 (spec_l5Sign_Q b_1 r) (.code (cR (cR spec_l5Sign_c)) :: []) ⟨mkTm .dead 17 [(2, B (u5))], mkS (rtL [] 1), 1⟩ := by
      refine run_forget [2] [] [] rfl rfl rfl rfl ?_
      subst h
      exact j2
    replace h := hu5
    clear hu5
    refine r_split (b := (decide (b_1 ≥ 48))) 12 rfl (fun hb => ?_) (fun hb => ?_)
    · replace h := cTp hb h
      refine og 193 (.int .u8 (b_1)) rfl rfl rfl rfl (e_move rfl) ?_
      refine og 209 (B ((decide (b_1 ≤ 57)))) rfl rfl rfl rfl (e_bin rfl rfl rfl) ?_
      refine og 225 (B ((decide (b_1 ≤ 57)))) rfl rfl rfl rfl (e_pickT rfl rfl) ?_
      refine o 241 (B ((decide (b_1 ≤ 57)))) rfl rfl (e_pickF rfl rfl) ?_
      refine o 257 (B ((decide (b_1 ≤ 57)))) rfl rfl (e_assign rfl) ?_
      refine s_ops ?_
      refine run_forget [2] [] [] rfl rfl rfl rfl ?_
      subst h
      exact j5
    · replace h := cFp hb h
      refine os 193 rfl rfl rfl rfl ?_
      refine os 209 rfl rfl rfl rfl ?_
      refine og 225 (B (false)) rfl rfl rfl rfl (e_pickF rfl rfl) ?_
      refine o 241 (B (false)) rfl rfl (e_pickF rfl rfl) ?_
      refine o 257 (B (false)) rfl rfl (e_assign rfl) ?_
      refine s_ops ?_
      refine run_forget [2] [] [] rfl rfl rfl rfl ?_
      subst h
      exact j5
noncomputable def spec_l5Sign_ent : Ent := ⟨[false], entF1 (decBy (V.int .u8)) fun b_1 => (spec_l5Sign b_1).map fun r => (B (r), [])⟩
theorem spec_l5Sign_F {b_1 : Int} {r : Bool} (h : spec_l5Sign b_1 = some r) : spec_l5Sign_ent.F [.int .u8 (b_1)] = some (B (r), []) := by
  have e : spec_l5Sign_ent.F [.int .u8 (b_1)] = (spec_l5Sign b_1).map fun r => (B (r), []) := by
    simp only [spec_l5Sign_ent, entF1, decS, dec_ok (vint_inj (k := .u8)), Option.bind_some]
  refine Eq.trans ?_ ((congrArg (Option.map fun r => ((B (r) : V), ([] : List V))) h))
  exact e
theorem spec_l5Sign_good {G : Go.Ln.Ground} : Good Tryd.prog G 105 spec_l5Sign_ent := by
  refine good_of_run (E := spec_l5Sign_E) (fnOf_good (by simp)) agree_mk (Checked.mixed Tryd.checked) Tryd.func105 (c := spec_l5Sign_c) (n := 1) ⟨rfl, rfl, by decide⟩ ?_
  intro vs r os h
  obtain ⟨v0, b_1, rfl, q0, h9⟩ := entI1 h
  obtain rfl := dec_of q0
  obtain ⟨r1, hr1, he⟩ := Option.map_eq_some_iff.1 h9
  cases he
  exact ⟨rfl, spec_l5Sign_run b_1 r1 hr1⟩
noncomputable def spec_l5Name_c : Code := bodyOf Tryd.f86
noncomputable def spec_l5Name_E : Env := mkE Tryd.prog [(54, spec_l1In_ent), (105, spec_l5Sign_ent)]
def spec_l5Name_Q (s_1 : Str) (r : Bool) (st : St) : Prop := finish spec_l5Name_E Tryd.f86 [false] (enter Tryd.f86 [str (s_1)]).1 st = some (B (r), [])
theorem spec_l5Name_la_run (s_1 : Str)  {Q : St → Prop} {K : List It} (hK : noD K = true) {x4 : Int} {y : Bool ⊕ Unit} (h : spec_l5Name_la s_1 x4 = some y) : (∀ r', y = .inl r' → ∀ st, spec_l5Name_Q s_1 r' st → Q st) → (∀ u : Unit, y = .inr u → Run spec_l5Name_E 0 Q K ⟨mkTm .dead 40 [(0, str (s_1))], mkS (rtL [] 1), 1⟩) → Run spec_l5Name_E 0 Q (.code (cL (cL (cR (cL (cR (cR spec_l5Name_c)))))) :: .lp (cL (cL (cR (cL (cR (cR spec_l5Name_c)))))) :: .blk 0 :: K) ⟨mkTm .dead 40 [(0, str (s_1)), (3, I (x4))], mkS (rtL [] 1), 1⟩ := by
  refine fix_ind (P := fun (x4 : Int) (y : Bool ⊕ Unit) => (∀ r', y = .inl r' → ∀ st, spec_l5Name_Q s_1 r' st → Q st) → (∀ u : Unit, y = .inr u → Run spec_l5Name_E 0 Q K ⟨mkTm .dead 40 [(0, str (s_1))], mkS (rtL [] 1), 1⟩) → Run spec_l5Name_E 0 Q (.code (cL (cL (cR (cL (cR (cR spec_l5Name_c)))))) :: .lp (cL (cL (cR (cL (cR (cR spec_l5Name_c)))))) :: .blk 0 :: K) ⟨mkTm .dead 40 [(0, str (s_1)), (3, I (x4))], mkS (rtL [] 1), 1⟩) (spec_l5Name_la_fin s_1) ?_ h
  clear h y x4
  intro self ih x4 y h hr hn
  unfold spec_l5Name_la_F at h
  refine s_seq rfl ?_
  refine s_seq rfl ?_
  refine s_reg rfl ?_
  refine o 17 (I (x4)) rfl rfl (e_move rfl) ?_
  refine o 33 (str (s_1)) rfl rfl (e_move rfl) ?_
  refine o 49 (I ((len s_1))) rfl rfl (e_len rfl rfl rfl (l_str rfl)) ?_
  refine o 65 (B ((decide (x4 < (len s_1))))) rfl rfl (e_bin rfl rfl rfl) ?_
  refine s_ops ?_
  refine s_cond rfl rfl (fun hb => ?_) (fun hb => ?_)
  · replace h := cT hb h
    refine s_skip rfl ?_
    refine s_seq rfl ?_
    refine s_block rfl ?_
    refine s_seq rfl ?_
    refine s_reg rfl ?_
    refine o 81 (str (s_1)) rfl rfl (e_move rfl) ?_
    refine o 97 (I (x4)) rfl rfl (e_move rfl) ?_
    obtain ⟨c5, hc5, h⟩ := bS h
    refine o 113 (.int .u8 ((c5.toNat : Int))) rfl rfl (e_index rfl rfl (i_str rfl rfl hc5)) ?_
    obtain ⟨r6, hr6, h⟩ := bS h
    refine o 129 (B (r6)) rfl rfl (e_callV rfl rfl (call_q rfl rfl rfl (avS (shP rfl) (avN)) (spec_l5Sign_F hr6) rfl rfl rfl)) ?_
    refine o 145 (B ((!r6))) rfl rfl (e_un rfl rfl) ?_
    refine s_ops ?_
    refine s_cond rfl rfl (fun hb => ?_) (fun hb => ?_)
    · replace h := cT hb h
      refine s_seq rfl ?_
      refine s_reg rfl ?_
      refine o 161 (B (false)) rfl rfl (e_assign rfl) ?_
      refine s_ops ?_
      exact s_ret rfl (hr _ (Option.some.inj h).symm _ (fin (vs := [B (false)]) rfl (absE (absorb_plain rfl) (absEN)) rfl rfl))
    · replace h := cF hb h
      refine s_skip rfl ?_
      refine s_blk ?_
      refine s_reg rfl ?_
      refine o 161 (I (x4)) rfl rfl (e_move rfl) ?_
      refine o 177 (I ((w64 (x4 + 1)))) rfl rfl (e_bin rfl rfl rfl) ?_
      refine o 193 (I ((w64 (x4 + 1)))) rfl rfl (e_assign rfl) ?_
      refine s_ops ?_
      refine s_lp ?_
      refine run_forget [0, 3] [] [] rfl rfl rfl rfl ?_
      exact ih _ _ h hr hn
  · replace h := cF hb h
    refine s_exit rfl rfl ?_
    refine run_forget [0] [] [] rfl rfl rfl hK ?_
    exact hn _ (Option.some.inj h).symm
theorem spec_l5Name_run (s_1 : Str) (r : Bool) (h : spec_l5Name s_1 = some r) : Run spec_l5Name_E 0 (spec_l5Name_Q s_1 r) [.code spec_l5Name_c] (enter Tryd.f86 [str (s_1)]).2 := by
  refine run_at (enter_eq (ys := [str (s_1)]) (R := []) (n := 40) (l := [(0, str (s_1))]) (nx := 1) rfl rfl rfl) ?_
  unfold spec_l5Name at h
  refine s_seq rfl ?_
  refine s_reg rfl ?_
  refine o 17 (B (false)) rfl rfl (e_assign rfl) ?_
  refine s_ops ?_
  refine s_seq rfl ?_
  refine s_seq rfl ?_
  refine s_reg rfl ?_
  refine o 33 (str (s_1)) rfl rfl (e_move rfl) ?_
  refine o 49 (I ((len s_1))) rfl rfl (e_len rfl rfl rfl (l_str rfl)) ?_
  obtain ⟨r2, hr2, h⟩ := bS h
  refine o 65 (B (r2)) rfl rfl (e_callV rfl rfl (call_q rfl rfl rfl (avS (shP rfl) (avS (shP rfl) (avS (shP rfl) (avN)))) (spec_l1In_F hr2) rfl rfl rfl)) ?_
  refine o 81 (B ((!r2))) rfl rfl (e_un rfl rfl) ?_
  refine o 97 (B ((!r2))) rfl rfl (e_move rfl) ?_
  obtain ⟨y3, hy3, hy31, hy32⟩ := bJ h
  have j3 : ∀ u3, y3 = .inr u3 → Run spec_l5Name_E 0 (spec_l5Name_Q s_1 r) (.code (cR (cL (cR spec_l5Name_c))) :: .code (cR (cR spec_l5Name_c)) :: []) ⟨mkTm .dead 40 [(0, str (s_1)), (17, B (u3))], mkS (rtL [] 1), 1⟩ := by
    intro u3 hu
    replace h := hy32 u3 hu
    refine s_cond rfl rfl (fun hb => ?_) (fun hb => ?_)
    · replace h := cT hb h
      refine s_seq rfl ?_
      refine s_reg rfl ?_
      refine o 17 (B (false)) rfl rfl (e_assign rfl) ?_
      refine s_ops ?_
      obtain rfl := Option.some.inj h
      exact s_ret rfl (fin (vs := [B (false)]) rfl (absE (absorb_plain rfl) (absEN)) rfl rfl)
    · replace h := cF hb h
      refine s_skip rfl ?_
      refine s_seq rfl ?_
      refine s_seq rfl ?_
      refine s_reg rfl ?_
      refine o 17 (I (0)) rfl rfl (e_assign rfl) ?_
      refine s_ops ?_
      refine s_block rfl ?_
      obtain ⟨y7, hy7, hy71, hy72⟩ := bJ h
      refine s_loop rfl ?_
      refine run_forget [0, 3] [] [] rfl rfl rfl rfl ?_
      refine spec_l5Name_la_run s_1 rfl hy7 (fun r' e st hq => by rw [hy71 r' e] at hq; exact hq) (fun u7 hu => ?_)
      replace h := hy72 u7 hu
      refine s_seq rfl ?_
      refine s_seq rfl ?_
      refine s_reg rfl ?_
      refine o 17 (str (s_1)) rfl rfl (e_move rfl) ?_
      refine s_ops ?_
      refine s_block rfl ?_
      refine s_seq rfl ?_
      refine s_seq rfl ?_
      refine s_reg rfl ?_
      refine o 33 (B ((s_1 == [116, 114, 117, 101]))) rfl rfl (e_bin rfl rfl b_streq) ?_
      refine o 49 (B ((s_1 == [116, 114, 117, 101]))) rfl rfl (e_assign rfl) ?_
      refine s_ops ?_
      obtain ⟨u8, hu8, h⟩ := lJ h
      have j8 : Run spec_l5Name_E 0 (spec_l5Name_Q s_1 r) (.code (cR (cL (cR (cL (cR (cR (cR spec_l5Name_c))))))) :: .blk 2 :: .code (cR (cR (cR (cR spec_l5Name_c)))) :: []) ⟨mkTm .dead 40 [(30, B (u8))], mkS (rtL [] 1), 1⟩ := by
        refine s_cond rfl rfl (fun hb => ?_) (fun hb => ?_)
        · replace h := cT hb h
          refine s_seq rfl ?_
          refine s_reg rfl ?_
          refine o 17 (B (false)) rfl rfl (e_assign rfl) ?_
          refine s_ops ?_
          obtain rfl := Option.some.inj h
          exact s_ret rfl (fin (vs := [B (false)]) rfl (absE (absorb_plain rfl) (absEN)) rfl rfl)
        · replace h := cF hb h
          refine s_skip rfl ?_
          refine s_blk ?_
          refine s_seq rfl ?_
          refine s_reg rfl ?_
          refine o 17 (B (true)) rfl rfl (e_assign rfl) ?_
          refine s_ops ?_
          obtain rfl := Option.some.inj h
          exact s_ret rfl (fin (vs := [B (true)]) rfl (absE (absorb_plain rfl) (absEN)) rfl rfl)
      replace h := hu8
      clear hu8
      refine s_cond rfl rfl (fun hb => ?_) (fun hb => ?_)
      · replace h := cTp hb h
        refine s_skip rfl ?_
        refine run_forget [30] [] [] rfl rfl rfl rfl ?_
        subst h
        exact j8
      · replace h := cFp hb h
        refine s_seq rfl ?_
        refine s_reg rfl ?_
        refine o 65 (B ((s_1 == [102, 114, 111, 109]))) rfl rfl (e_bin rfl rfl b_streq) ?_
        refine o 81 (B ((s_1 == [102, 114, 111, 109]))) rfl rfl (e_assign rfl) ?_
        refine s_ops ?_
        obtain ⟨u9, hu9, h⟩ := lJ h
        have j9 : Run spec_l5Name_E 0 (spec_l5Name_Q s_1 r) (.code (cR (cL (cR (cL (cR (cR (cR spec_l5Name_c))))))) :: .blk 2 :: .code (cR (cR (cR (cR spec_l5Name_c)))) :: []) ⟨mkTm .dead 40 [(30, B (u9))], mkS (rtL [] 1), 1⟩ := by
          refine run_forget [30] [] [] rfl rfl rfl rfl ?_
          subst h
          exact j8
        replace h := hu9
        clear hu9
        refine s_cond rfl rfl (fun hb => ?_) (fun hb => ?_)
        · replace h := cTp hb h
          refine s_skip rfl ?_
          refine run_forget [30] [] [] rfl rfl rfl rfl ?_
          subst h
          exact j9
        · replace h := cFp hb h
          refine s_seq rfl ?_
          refine s_reg rfl ?_
          refine o 97 (B ((s_1 == [110, 111, 116]))) rfl rfl (e_bin rfl rfl b_streq) ?_
          refine o 113 (B ((s_1 == [110, 111, 116]))) rfl rfl (e_assign rfl) ?_
          refine s_ops ?_
          obtain ⟨u10, hu10, h⟩ := lJ h
          have j10 : Run spec_l5Name_E 0 (spec_l5Name_Q s_1 r) (.code (cR (cL (cR (cL (cR (cR (cR spec_l5Name_c))))))) :: .blk 2 :: .code (cR (cR (cR (cR spec_l5Name_c)))) :: []) ⟨mkTm .dead 40 [(30, B (u10))], mkS (rtL [] 1), 1⟩ := by
            refine run_forget [30] [] [] rfl rfl rfl rfl ?_
            subst h
            exact j9
          replace h := hu10
          clear hu10
          refine s_cond rfl rfl (fun hb => ?_) (fun hb => ?_)
          · replace h := cTp hb h
            refine s_skip rfl ?_
            refine run_forget [30] [] [] rfl rfl rfl rfl ?_
            subst h
            exact j10
          · replace h := cFp hb h
            refine s_seq rfl ?_
            refine s_reg rfl ?_
            refine o 129 (B ((s_1 == [97, 110, 100]))) rfl rfl (e_bin rfl rfl b_streq) ?_
            refine o 145 (B ((s_1 == [97, 110, 100]))) rfl rfl (e_assign rfl) ?_
            refine s_ops ?_
            obtain ⟨u11, hu11, h⟩ := lJ h
            have j11 : Run spec_l5Name_E 0 (spec_l5Name_Q s_1 r) (.code (cR (cL (cR (cL (cR (cR (cR spec_l5Name_c))))))) :: .blk 2 :: .code (cR (cR (cR (cR spec_l5Name_c)))) :: []) ⟨mkTm .dead 40 [(30, B (u11))], mkS (rtL [] 1), 1⟩ := by
              refine run_forget [30] [] [] rfl rfl rfl rfl ?_
              subst h
              exact j10
            replace h := hu11
            clear hu11
            refine s_cond rfl rfl (fun hb => ?_) (fun hb => ?_)
            · replace h := cTp hb h
              refine s_skip rfl ?_
              refine run_forget [30] [] [] rfl rfl rfl rfl ?_
              subst h
              exact j11
            · replace h := cFp hb h
              refine s_seq rfl ?_
              refine s_reg rfl ?_
              refine o 161 (B ((s_1 == [111, 114]))) rfl rfl (e_bin rfl rfl b_streq) ?_
              refine o 177 (B ((s_1 == [111, 114]))) rfl rfl (e_assign rfl) ?_
              refine s_ops ?_
              obtain ⟨u12, hu12, h⟩ := lJ h
              have j12 : Run spec_l5Name_E 0 (spec_l5Name_Q s_1 r) (.code (cR (cL (cR (cL (cR (cR (cR spec_l5Name_c))))))) :: .blk 2 :: .code (cR (cR (cR (cR spec_l5Name_c)))) :: []) ⟨mkTm .dead 40 [(30, B (u12))], mkS (rtL [] 1), 1⟩ := by
                refine run_forget [30] [] [] rfl rfl rfl rfl ?_
                subst h
                exact j11
              replace h := hu12
              clear hu12
              refine s_cond rfl rfl (fun hb => ?_) (fun hb => ?_)
              · replace h := cTp hb h
                refine s_skip rfl ?_
                refine run_forget [30] [] [] rfl rfl rfl rfl ?_
                subst h
                exact j12
              · replace h := cFp hb h
                refine s_seq rfl ?_
                refine s_reg rfl ?_
                refine o 193 (B ((s_1 == [98, 111, 116, 104]))) rfl rfl (e_bin rfl rfl b_streq) ?_
                refine o 209 (B ((s_1 == [98, 111, 116, 104]))) rfl rfl (e_assign rfl) ?_
                refine s_ops ?_
                obtain ⟨u13, hu13, h⟩ := lJ h
                have j13 : Run spec_l5Name_E 0 (spec_l5Name_Q s_1 r) (.code (cR (cL (cR (cL (cR (cR (cR spec_l5Name_c))))))) :: .blk 2 :: .code (cR (cR (cR (cR spec_l5Name_c)))) :: []) ⟨mkTm .dead 40 [(30, B (u13))], mkS (rtL [] 1), 1⟩ := by
                  refine run_forget [30] [] [] rfl rfl rfl rfl ?_
                  subst h
                  exact j12
                replace h := hu13
                clear hu13
                refine s_cond rfl rfl (fun hb => ?_) (fun hb => ?_)
                · replace h := cTp hb h
                  refine s_skip rfl ?_
                  refine run_forget [30] [] [] rfl rfl rfl rfl ?_
                  subst h
                  exact j13
                · replace h := cFp hb h
                  refine s_seq rfl ?_
                  refine s_reg rfl ?_
                  refine o 225 (B ((s_1 == [101, 105, 116, 104, 101, 114]))) rfl rfl (e_bin rfl rfl b_streq) ?_
                  refine o 241 (B ((s_1 == [101, 105, 116, 104, 101, 114]))) rfl rfl (e_assign rfl) ?_
                  refine s_ops ?_
                  obtain ⟨u14, hu14, h⟩ := lJ h
                  have j14 : Run spec_l5Name_E 0 (spec_l5Name_Q s_1 r) (.code (cR (cL (cR (cL (cR (cR (cR spec_l5Name_c))))))) :: .blk 2 :: .code (cR (cR (cR (cR spec_l5Name_c)))) :: []) ⟨mkTm .dead 40 [(30, B (u14))], mkS (rtL [] 1), 1⟩ := by
                    refine run_forget [30] [] [] rfl rfl rfl rfl ?_
                    subst h
                    exact j13
                  replace h := hu14
                  clear hu14
                  refine s_cond rfl rfl (fun hb => ?_) (fun hb => ?_)
                  · replace h := cTp hb h
                    refine s_skip rfl ?_
                    refine run_forget [30] [] [] rfl rfl rfl rfl ?_
                    subst h
                    exact j14
                  · replace h := cFp hb h
                    refine s_seq rfl ?_
                    refine s_reg rfl ?_
                    refine o 257 (B ((s_1 == [105, 116]))) rfl rfl (e_bin rfl rfl b_streq) ?_
                    refine o 273 (B ((s_1 == [105, 116]))) rfl rfl (e_assign rfl) ?_
                    refine s_ops ?_
                    obtain ⟨u15, hu15, h⟩ := lJ h
                    have j15 : Run spec_l5Name_E 0 (spec_l5Name_Q s_1 r) (.code (cR (cL (cR (cL (cR (cR (cR spec_l5Name_c))))))) :: .blk 2 :: .code (cR (cR (cR (cR spec_l5Name_c)))) :: []) ⟨mkTm .dead 40 [(30, B (u15))], mkS (rtL [] 1), 1⟩ := by
                      refine run_forget [30] [] [] rfl rfl rfl rfl ?_
                      subst h
                      exact j14
                    replace h := hu15
                    clear hu15
                    refine s_cond rfl rfl (fun hb => ?_) (fun hb => ?_)
                    · replace h := cTp hb h
                      refine s_skip rfl ?_
                      refine run_forget [30] [] [] rfl rfl rfl rfl ?_
                      subst h
                      exact j15
                    · replace h := cFp hb h
                      refine s_reg rfl ?_
                      refine o 289 (B ((s_1 == [105, 110]))) rfl rfl (e_bin rfl rfl b_streq) ?_
                      refine o 305 (B ((s_1 == [105, 110]))) rfl rfl (e_assign rfl) ?_
                      refine s_ops ?_
                      refine run_forget [30] [] [] rfl rfl rfl rfl ?_
                      subst h
                      exact j15
  have r3 : ∀ r', y3 = .inl r' → ∀ st, spec_l5Name_Q s_1 r' st → (spec_l5Name_Q s_1 r) st := fun r' e st hq => by rw [hy31 r' e] at hq; exact hq
  replace h := hy3
  refine r_split (b := (!r2)) 8 rfl (fun hb => ?_) (fun hb => ?_)
  · replace h := cT hb h
    refine os 113 rfl rfl rfl rfl ?_
    refine os 129 rfl rfl rfl rfl ?_
    refine os 145 rfl rfl rfl rfl ?_
    refine o 161 (B (true)) rfl rfl (e_pickT rfl rfl) ?_
    refine o 177 (B (true)) rfl rfl (e_move rfl) ?_
    refine os 193 rfl rfl rfl rfl ?_
    refine os 209 rfl rfl rfl rfl ?_
    refine os 225 rfl rfl rfl rfl ?_
    refine o 241 (B (true)) rfl rfl (e_pickT rfl rfl) ?_
    refine s_ops ?_
    refine run_forget [0, 17] [] [] rfl rfl rfl rfl ?_
    exact j3 _ (Option.some.inj h).symm
  · replace h := cF hb h
    refine og 113 (str (s_1)) rfl rfl rfl rfl (e_move rfl) ?_
    obtain ⟨c16, hc16, h⟩ := bS h
    refine og 129 (.int .u8 ((c16.toNat : Int))) rfl rfl rfl rfl (e_index rfl rfl (i_str rfl rfl hc16)) ?_
    refine og 145 (B ((decide ((c16.toNat : Int) < 97)))) rfl rfl rfl rfl (e_bin rfl rfl rfl) ?_
    refine o 161 (B ((decide ((c16.toNat : Int) < 97)))) rfl rfl (e_pickF rfl rfl) ?_
    refine o 177 (B ((decide ((c16.toNat : Int) < 97)))) rfl rfl (e_move rfl) ?_
    obtain ⟨y17, hy17, hy171, hy172⟩ := bL h
    have j17 : ∀ u17, y17 = .inr u17 → Run spec_l5Name_E 0 (spec_l5Name_Q s_1 r) (.code (cR (cL (cR spec_l5Name_c))) :: .code (cR (cR spec_l5Name_c)) :: []) ⟨mkTm .dead 40 [(0, str (s_1)), (17, B (u17))], mkS (rtL [] 1), 1⟩ := by
      intro u17 hu
      replace h := hy172 u17 hu
      refine run_forget [0, 17] [] [] rfl rfl rfl rfl ?_
      exact j3 _ (Option.some.inj h).symm
    have r17 : ∀ r', y17 = .inl r' → ∀ st, spec_l5Name_Q s_1 r' st → (spec_l5Name_Q s_1 r) st := fun r' e st hq => r3 r' (hy171 r' e) st hq
    replace h := hy17
    refine r_split (b := (decide ((c16.toNat : Int) < 97))) 13 rfl (fun hb => ?_) (fun hb => ?_)
    · replace h := cT hb h
      refine os 193 rfl rfl rfl rfl ?_
      refine os 209 rfl rfl rfl rfl ?_
      refine os 225 rfl rfl rfl rfl ?_
      refine o 241 (B (true)) rfl rfl (e_pickT rfl rfl) ?_
      refine s_ops ?_
      refine run_forget [0, 17] [] [] rfl rfl rfl rfl ?_
      exact j17 _ (Option.some.inj h).symm
    · replace h := cF hb h
      refine og 193 (str (s_1)) rfl rfl rfl rfl (e_move rfl) ?_
      obtain ⟨c18, hc18, h⟩ := bS h
      refine og 209 (.int .u8 ((c18.toNat : Int))) rfl rfl rfl rfl (e_index rfl rfl (i_str rfl rfl hc18)) ?_
      refine og 225 (B ((decide ((c18.toNat : Int) > 122)))) rfl rfl rfl rfl (e_bin rfl rfl rfl) ?_
      refine o 241 (B ((decide ((c18.toNat : Int) > 122)))) rfl rfl (e_pickF rfl rfl) ?_
      refine s_ops ?_
      refine run_forget [0, 17] [] [] rfl rfl rfl rfl ?_
      exact j17 _ (Option.some.inj h).symm
noncomputable def spec_l5Name_ent : Ent := ⟨[false], entF1 (decBy str) fun s_1 => (spec_l5Name s_1).map fun r => (B (r), [])⟩
theorem spec_l5Name_F {s_1 : Str} {r : Bool} (h : spec_l5Name s_1 = some r) : spec_l5Name_ent.F [str (s_1)] = some (B (r), []) := by
  have e : spec_l5Name_ent.F [str (s_1)] = (spec_l5Name s_1).map fun r => (B (r), []) := by
    simp only [spec_l5Name_ent, entF1, decS, dec_ok str_inj, Option.bind_some]
  refine Eq.trans ?_ ((congrArg (Option.map fun r => ((B (r) : V), ([] : List V))) h))
  exact e
theorem spec_l5Name_good {G : Go.Ln.Ground} (g54 : Good Tryd.prog G 54 spec_l1In_ent) (g105 : Good Tryd.prog G 105 spec_l5Sign_ent) : Good Tryd.prog G 86 spec_l5Name_ent := by
  refine good_of_run (E := spec_l5Name_E) (fnOf_good (by
    intro p hp
    simp only [List.mem_cons, List.not_mem_nil, or_false] at hp
    rcases hp with rfl | rfl
    · exact g54
    · exact g105)) agree_mk (Checked.mixed Tryd.checked) Tryd.func86 (c := spec_l5Name_c) (n := 1) ⟨rfl, rfl, by decide⟩ ?_
  intro vs r os h
  obtain ⟨v0, s_1, rfl, q0, h9⟩ := entI1 h
  obtain rfl := dec_of q0
  obtain ⟨r1, hr1, he⟩ := Option.map_eq_some_iff.1 h9
  cases he
  exact ⟨rfl, spec_l5Name_run s_1 r1 hr1⟩
noncomputable def spec_l8Event_c : Code := bodyOf Tryd.f63
noncomputable def spec_l8Event_E : Env := mkE Tryd.prog [(85, spec_l3Good_ent), (54, spec_l1In_ent), (86, spec_l5Name_ent)]
def spec_l8Event_Q (e_1 : Event) (parties_2 : Int) (r : Bool) (st : St) : Prop := finish spec_l8Event_E Tryd.f63 [false, false] (enter Tryd.f63 [.agg [I (e_1.Day), I (e_1.Party), str (e_1.Action), I (e_1.Amount)], I (parties_2)]).1 st = some (B (r), [])
theorem spec_l8Event_run (e_1 : Event) (parties_2 : Int) (r : Bool) (h : spec_l8Event e_1 parties_2 = some r) : Run spec_l8Event_E 0 (spec_l8Event_Q e_1 parties_2 r) [.code spec_l8Event_c] (enter Tryd.f63 [.agg [I (e_1.Day), I (e_1.Party), str (e_1.Action), I (e_1.Amount)], I (parties_2)]).2 := by
  refine run_at (enter_eq (ys := [.agg [I (e_1.Day), I (e_1.Party), str (e_1.Action), I (e_1.Amount)], I (parties_2)]) (R := []) (n := 25) (l := [(0, .agg [I (e_1.Day), I (e_1.Party), str (e_1.Action), I (e_1.Amount)]), (1, I (parties_2))]) (nx := 1) rfl rfl rfl) ?_
  unfold spec_l8Event at h
  refine s_seq rfl ?_
  refine s_reg rfl ?_
  refine o 17 (.hp 1 0 [] 4 0 0) rfl rfl (e_boxP rfl rfl rfl) ?_
  refine o 33 (B (false)) rfl rfl (e_assign rfl) ?_
  refine s_ops ?_
  refine s_seq rfl ?_
  refine s_reg rfl ?_
  refine o 49 (.hp 1 0 [] 4 0 0) rfl rfl (e_fieldAddr rfl rfl rfl) ?_
  refine o 65 (I (e_1.Day)) rfl rfl (e_ld rfl rfl) ?_
  obtain ⟨r3, hr3, h⟩ := bS h
  refine o 81 (B (r3)) rfl rfl (e_callV rfl rfl (call_q rfl rfl rfl (avS (shP rfl) (avN)) (spec_l3Good_F hr3) rfl rfl rfl)) ?_
  refine o 97 (B (r3)) rfl rfl (e_move rfl) ?_
  obtain ⟨y4, hy4, hy41, hy42⟩ := bJ h
  have j4 : ∀ u4, y4 = .inr u4 → Run spec_l8Event_E 0 (spec_l8Event_Q e_1 parties_2 r) (.code (cR (cR spec_l8Event_c)) :: []) ⟨mkTm .dead 25 [(4, B (u4))], mkS (rtL [] 1), 1⟩ := by
    intro u4 hu
    replace h := hy42 u4 hu
    obtain rfl := Option.some.inj h
    exact s_ret rfl (fin (vs := [B (u4)]) rfl (absE (absorb_plain rfl) (absEN)) rfl rfl)
  have r4 : ∀ r', y4 = .inl r' → ∀ st, spec_l8Event_Q e_1 parties_2 r' st → (spec_l8Event_Q e_1 parties_2 r) st := fun r' e st hq => by rw [hy41 r' e] at hq; exact hq
  replace h := hy4
  refine r_split (b := r3) 8 rfl (fun hb => ?_) (fun hb => ?_)
  · replace h := cT hb h
    refine og 113 (.hp 1 0 [] 4 0 1) rfl rfl rfl rfl (e_fieldAddr rfl rfl rfl) ?_
    refine og 129 (I (e_1.Party)) rfl rfl rfl rfl (e_ld rfl rfl) ?_
    refine og 145 (I (parties_2)) rfl rfl rfl rfl (e_move rfl) ?_
    refine og 161 (I ((w64 (parties_2 - 1)))) rfl rfl rfl rfl (e_bin rfl rfl rfl) ?_
    obtain ⟨r5, hr5, h⟩ := bS h
    refine og 177 (B (r5)) rfl rfl rfl rfl (e_callV rfl rfl (call_q rfl rfl rfl (avS (shP rfl) (avS (shP rfl) (avS (shP rfl) (avN)))) (spec_l1In_F hr5) rfl rfl rfl)) ?_
    refine o 193 (B (r5)) rfl rfl (e_pickT rfl rfl) ?_
    refine o 209 (B (r5)) rfl rfl (e_move rfl) ?_
    obtain ⟨y6, hy6, hy61, hy62⟩ := bL h
    have j6 : ∀ u6, y6 = .inr u6 → Run spec_l8Event_E 0 (spec_l8Event_Q e_1 parties_2 r) (.code (cR (cR spec_l8Event_c)) :: []) ⟨mkTm .dead 25 [(4, B (u6))], mkS (rtL [] 1), 1⟩ := by
      intro u6 hu
      replace h := hy62 u6 hu
      refine run_forget [4] [] [] rfl rfl rfl rfl ?_
      exact j4 _ (Option.some.inj h).symm
    have r6 : ∀ r', y6 = .inl r' → ∀ st, spec_l8Event_Q e_1 parties_2 r' st → (spec_l8Event_Q e_1 parties_2 r) st := fun r' e st hq => r4 r' (hy61 r' e) st hq
    replace h := hy6
    refine r_split (b := r5) 15 rfl (fun hb => ?_) (fun hb => ?_)
    · replace h := cT hb h
      refine og 225 (.hp 1 0 [] 4 0 2) rfl rfl rfl rfl (e_fieldAddr rfl rfl rfl) ?_
      refine og 241 (str (e_1.Action)) rfl rfl rfl rfl (e_ld rfl rfl) ?_
      obtain ⟨r7, hr7, h⟩ := bS h
      refine og 257 (B (r7)) rfl rfl rfl rfl (e_callV rfl rfl (call_q rfl rfl rfl (avS (shP rfl) (avN)) (spec_l5Name_F hr7) rfl rfl rfl)) ?_
      refine o 273 (B (r7)) rfl rfl (e_pickT rfl rfl) ?_
      refine o 289 (B (r7)) rfl rfl (e_move rfl) ?_
      obtain ⟨y8, hy8, hy81, hy82⟩ := bL h
      have j8 : ∀ u8, y8 = .inr u8 → Run spec_l8Event_E 0 (spec_l8Event_Q e_1 parties_2 r) (.code (cR (cR spec_l8Event_c)) :: []) ⟨mkTm .dead 25 [(4, B (u8))], mkS (rtL [] 1), 1⟩ := by
        intro u8 hu
        replace h := hy82 u8 hu
        refine run_forget [4] [] [] rfl rfl rfl rfl ?_
        exact j6 _ (Option.some.inj h).symm
      have r8 : ∀ r', y8 = .inl r' → ∀ st, spec_l8Event_Q e_1 parties_2 r' st → (spec_l8Event_Q e_1 parties_2 r) st := fun r' e st hq => r6 r' (hy81 r' e) st hq
      replace h := hy8
      refine r_split (b := r7) 20 rfl (fun hb => ?_) (fun hb => ?_)
      · replace h := cT hb h
        refine og 305 (.hp 1 0 [] 4 0 3) rfl rfl rfl rfl (e_fieldAddr rfl rfl rfl) ?_
        refine og 321 (I (e_1.Amount)) rfl rfl rfl rfl (e_ld rfl rfl) ?_
        obtain ⟨r9, hr9, h⟩ := bS h
        refine og 337 (B (r9)) rfl rfl rfl rfl (e_callV rfl rfl (call_q rfl rfl rfl (avS (shP rfl) (avS (shP rfl) (avS (shP rfl) (avN)))) (spec_l1In_F hr9) rfl rfl rfl)) ?_
        refine o 353 (B (r9)) rfl rfl (e_pickT rfl rfl) ?_
        refine o 369 (B (r9)) rfl rfl (e_assign rfl) ?_
        refine s_ops ?_
        refine run_forget [4] [] [] rfl rfl rfl rfl ?_
        exact j8 _ (Option.some.inj h).symm
      · replace h := cF hb h
        refine os 305 rfl rfl rfl rfl ?_
        refine os 321 rfl rfl rfl rfl ?_
        refine os 337 rfl rfl rfl rfl ?_
        refine o 353 (B (false)) rfl rfl (e_pickF rfl rfl) ?_
        refine o 369 (B (false)) rfl rfl (e_assign rfl) ?_
        refine s_ops ?_
        refine run_forget [4] [] [] rfl rfl rfl rfl ?_
        exact j8 _ (Option.some.inj h).symm
    · replace h := cF hb h
      refine os 225 rfl rfl rfl rfl ?_
      refine os 241 rfl rfl rfl rfl ?_
      refine os 257 rfl rfl rfl rfl ?_
      refine o 273 (B (false)) rfl rfl (e_pickF rfl rfl) ?_
      refine o 289 (B (false)) rfl rfl (e_move rfl) ?_
      refine os 305 rfl rfl rfl rfl ?_
      refine os 321 rfl rfl rfl rfl ?_
      refine os 337 rfl rfl rfl rfl ?_
      refine o 353 (B (false)) rfl rfl (e_pickF rfl rfl) ?_
      refine o 369 (B (false)) rfl rfl (e_assign rfl) ?_
      refine s_ops ?_
      refine run_forget [4] [] [] rfl rfl rfl rfl ?_
      exact j6 _ (Option.some.inj h).symm
  · replace h := cF hb h
    refine os 113 rfl rfl rfl rfl ?_
    refine os 129 rfl rfl rfl rfl ?_
    refine os 145 rfl rfl rfl rfl ?_
    refine os 161 rfl rfl rfl rfl ?_
    refine os 177 rfl rfl rfl rfl ?_
    refine o 193 (B (false)) rfl rfl (e_pickF rfl rfl) ?_
    refine o 209 (B (false)) rfl rfl (e_move rfl) ?_
    refine os 225 rfl rfl rfl rfl ?_
    refine os 241 rfl rfl rfl rfl ?_
    refine os 257 rfl rfl rfl rfl ?_
    refine o 273 (B (false)) rfl rfl (e_pickF rfl rfl) ?_
    refine o 289 (B (false)) rfl rfl (e_move rfl) ?_
    refine os 305 rfl rfl rfl rfl ?_
    refine os 321 rfl rfl rfl rfl ?_
    refine os 337 rfl rfl rfl rfl ?_
    refine o 353 (B (false)) rfl rfl (e_pickF rfl rfl) ?_
    refine o 369 (B (false)) rfl rfl (e_assign rfl) ?_
    refine s_ops ?_
    refine run_forget [4] [] [] rfl rfl rfl rfl ?_
    exact j4 _ (Option.some.inj h).symm
noncomputable def spec_l8Event_ent : Ent := ⟨[false, false], entF2 (decBy enc_Event) (decBy I) fun e_1 parties_2 => (spec_l8Event e_1 parties_2).map fun r => (B (r), [])⟩
theorem spec_l8Event_F {e_1 : Event} {parties_2 : Int} {r : Bool} (h : spec_l8Event e_1 parties_2 = some r) : spec_l8Event_ent.F [.agg [I (e_1.Day), I (e_1.Party), str (e_1.Action), I (e_1.Amount)], I (parties_2)] = some (B (r), []) := by
  have e : spec_l8Event_ent.F [enc_Event e_1, I (parties_2)] = (spec_l8Event e_1 parties_2).map fun r => (B (r), []) := by
    simp only [spec_l8Event_ent, entF2, decS, dec_ok enc_Event_inj, dec_ok I_inj, Option.bind_some]
  refine Eq.trans ?_ ((congrArg (Option.map fun r => ((B (r) : V), ([] : List V))) h))
  exact e
theorem spec_l8Event_good {G : Go.Ln.Ground} (g85 : Good Tryd.prog G 85 spec_l3Good_ent) (g54 : Good Tryd.prog G 54 spec_l1In_ent) (g86 : Good Tryd.prog G 86 spec_l5Name_ent) : Good Tryd.prog G 63 spec_l8Event_ent := by
  refine good_of_run (E := spec_l8Event_E) (fnOf_good (by
    intro p hp
    simp only [List.mem_cons, List.not_mem_nil, or_false] at hp
    rcases hp with rfl | rfl | rfl
    · exact g85
    · exact g54
    · exact g86)) agree_mk (Checked.mixed Tryd.checked) Tryd.func63 (c := spec_l8Event_c) (n := 2) ⟨rfl, rfl, by decide⟩ ?_
  intro vs r os h
  obtain ⟨v0, v1, e_1, parties_2, rfl, q0, q1, h9⟩ := entI2 h
  obtain rfl := dec_of q0
  obtain rfl := dec_of q1
  obtain ⟨r1, hr1, he⟩ := Option.map_eq_some_iff.1 h9
  cases he
  exact ⟨rfl, spec_l8Event_run e_1 parties_2 r1 hr1⟩
noncomputable def spec_l8Valid_c : Code := bodyOf Tryd.f68
noncomputable def spec_l8Valid_E : Env := mkE Tryd.prog [(63, spec_l8Event_ent), (54, spec_l1In_ent)]
def spec_l8Valid_Q (list_1 : List Event) (parties_2 : Int) (r : Bool) (st : St) : Prop := finish spec_l8Valid_E Tryd.f68 [false, false] (enter Tryd.f68 [.isl false ((list_1).map enc_Event), I (parties_2)]).1 st = some (B (r), [])
theorem spec_l8Valid_la_run (list_1 : List Event) (parties_2 : Int)  {Q : St → Prop} {K : List It} (hK : noD K = true) {x3 : Int} {y : Bool ⊕ Unit} (h : spec_l8Valid_la list_1 parties_2 x3 = some y) : (∀ r', y = .inl r' → ∀ st, spec_l8Valid_Q list_1 parties_2 r' st → Q st) → (∀ u : Unit, y = .inr u → Run spec_l8Valid_E 0 Q K ⟨mkTm .dead 30 [(0, .isl false ((list_1).map enc_Event)), (1, I (parties_2))], mkS (rtL [] 1), 1⟩) → Run spec_l8Valid_E 0 Q (.code (cL (cL (cR (cL (cR spec_l8Valid_c))))) :: .lp (cL (cL (cR (cL (cR spec_l8Valid_c))))) :: .blk 0 :: K) ⟨mkTm .dead 30 [(0, .isl false ((list_1).map enc_Event)), (1, I (parties_2)), (5, I (x3))], mkS (rtL [] 1), 1⟩ := by
  refine fix_ind (P := fun (x3 : Int) (y : Bool ⊕ Unit) => (∀ r', y = .inl r' → ∀ st, spec_l8Valid_Q list_1 parties_2 r' st → Q st) → (∀ u : Unit, y = .inr u → Run spec_l8Valid_E 0 Q K ⟨mkTm .dead 30 [(0, .isl false ((list_1).map enc_Event)), (1, I (parties_2))], mkS (rtL [] 1), 1⟩) → Run spec_l8Valid_E 0 Q (.code (cL (cL (cR (cL (cR spec_l8Valid_c))))) :: .lp (cL (cL (cR (cL (cR spec_l8Valid_c))))) :: .blk 0 :: K) ⟨mkTm .dead 30 [(0, .isl false ((list_1).map enc_Event)), (1, I (parties_2)), (5, I (x3))], mkS (rtL [] 1), 1⟩) (spec_l8Valid_la_fin list_1 parties_2) ?_ h
  clear h y x3
  intro self ih x3 y h hr hn
  unfold spec_l8Valid_la_F at h
  refine s_seq rfl ?_
  refine s_seq rfl ?_
  refine s_reg rfl ?_
  refine o 17 (I (x3)) rfl rfl (e_move rfl) ?_
  refine o 33 (.isl false ((list_1).map enc_Event)) rfl rfl (e_move rfl) ?_
  refine o 49 (I ((len list_1))) rfl rfl (e_len rfl rfl rfl (l_isl rfl)) ?_
  refine o 65 (B ((decide (x3 < (len list_1))))) rfl rfl (e_bin rfl rfl rfl) ?_
  refine o 81 (B ((decide (x3 < (len list_1))))) rfl rfl (e_move rfl) ?_
  obtain ⟨u4, hu4, h⟩ := lJ h
  have j4 : Run spec_l8Valid_E 0 Q (.code (cR (cL (cL (cL (cR (cL (cR spec_l8Valid_c))))))) :: .code (cR (cL (cL (cR (cL (cR spec_l8Valid_c)))))) :: .lp (cL (cL (cR (cL (cR spec_l8Valid_c))))) :: .blk 0 :: K) ⟨mkTm .dead 30 [(0, .isl false ((list_1).map enc_Event)), (1, I (parties_2)), (5, I (x3)), (13, B (u4))], mkS (rtL [] 1), 1⟩ := by
    refine s_cond rfl rfl (fun hb => ?_) (fun hb => ?_)
    · replace h := cT hb h
      refine s_skip rfl ?_
      refine s_seq rfl ?_
      refine s_block rfl ?_
      refine s_seq rfl ?_
      refine s_reg rfl ?_
      refine o 17 (.isl false ((list_1).map enc_Event)) rfl rfl (e_move rfl) ?_
      refine o 33 (I (x3)) rfl rfl (e_move rfl) ?_
      obtain ⟨e5, he5, h⟩ := bS h
      refine o 49 (.iptr (.agg [I (e5.Day), I (e5.Party), str (e5.Action), I (e5.Amount)]) 0) rfl rfl (e_indexAddr rfl rfl rfl (ix_islE rfl rfl rfl rfl he5)) ?_
      refine o 65 (.agg [I (e5.Day), I (e5.Party), str (e5.Action), I (e5.Amount)]) rfl rfl (e_ld rfl rfl) ?_
      refine o 81 (I (parties_2)) rfl rfl (e_move rfl) ?_
      obtain ⟨r6, hr6, h⟩ := bS h
      refine o 97 (B (r6)) rfl rfl (e_callV rfl rfl (call_q rfl rfl rfl (avS (shP rfl) (avS (shP rfl) (avN))) (spec_l8Event_F hr6) rfl rfl rfl)) ?_
      refine o 113 (B ((!r6))) rfl rfl (e_un rfl rfl) ?_
      refine s_ops ?_
      refine s_cond rfl rfl (fun hb => ?_) (fun hb => ?_)
      · replace h := cT hb h
        refine s_seq rfl ?_
        refine s_reg rfl ?_
        refine o 129 (B (false)) rfl rfl (e_assign rfl) ?_
        refine s_ops ?_
        exact s_ret rfl (hr _ (Option.some.inj h).symm _ (fin (vs := [B (false)]) rfl (absE (absorb_plain rfl) (absEN)) rfl rfl))
      · replace h := cF hb h
        refine s_skip rfl ?_
        refine s_blk ?_
        refine s_reg rfl ?_
        refine o 129 (I (x3)) rfl rfl (e_move rfl) ?_
        refine o 145 (I ((w64 (x3 + 1)))) rfl rfl (e_bin rfl rfl rfl) ?_
        refine o 161 (I ((w64 (x3 + 1)))) rfl rfl (e_assign rfl) ?_
        refine s_ops ?_
        refine s_lp ?_
        refine run_forget [0, 1, 5] [] [] rfl rfl rfl rfl ?_
        exact ih _ _ h hr hn
    · replace h := cF hb h
      refine s_exit rfl rfl ?_
      refine run_forget [0, 1] [] [] rfl rfl rfl hK ?_
      exact hn _ (Option.some.inj h).symm
  replace h := hu4
  clear hu4
  refine r_split (b := (decide (x3 < (len list_1)))) 10 rfl (fun hb => ?_) (fun hb => ?_)
  · replace h := cTp hb h
    refine og 97 (I (x3)) rfl rfl rfl rfl (e_move rfl) ?_
    refine og 113 (B ((decide (x3 ≤ 40)))) rfl rfl rfl rfl (e_bin rfl rfl rfl) ?_
    refine o 129 (B ((decide (x3 ≤ 40)))) rfl rfl (e_pickT rfl rfl) ?_
    refine s_ops ?_
    refine run_forget [0, 1, 5, 13] [] [] rfl rfl rfl rfl ?_
    subst h
    exact j4
  · replace h := cFp hb h
    refine os 97 rfl rfl rfl rfl ?_
    refine os 113 rfl rfl rfl rfl ?_
    refine o 129 (B (false)) rfl rfl (e_pickF rfl rfl) ?_
    refine s_ops ?_
    refine run_forget [0, 1, 5, 13] [] [] rfl rfl rfl rfl ?_
    subst h
    exact j4
theorem spec_l8Valid_run (list_1 : List Event) (parties_2 : Int) (r : Bool) (h : spec_l8Valid list_1 parties_2 = some r) : Run spec_l8Valid_E 0 (spec_l8Valid_Q list_1 parties_2 r) [.code spec_l8Valid_c] (enter Tryd.f68 [.isl false ((list_1).map enc_Event), I (parties_2)]).2 := by
  refine run_at (enter_eq (ys := [.isl false ((list_1).map enc_Event), I (parties_2)]) (R := []) (n := 30) (l := [(0, .isl false ((list_1).map enc_Event)), (1, I (parties_2))]) (nx := 1) rfl rfl rfl) ?_
  unfold spec_l8Valid at h
  refine s_seq rfl ?_
  refine s_reg rfl ?_
  refine o 17 (B (false)) rfl rfl (e_assign rfl) ?_
  refine s_ops ?_
  refine s_seq rfl ?_
  refine s_seq rfl ?_
  refine s_reg rfl ?_
  refine o 33 (I (0)) rfl rfl (e_assign rfl) ?_
  refine s_ops ?_
  refine s_block rfl ?_
  obtain ⟨y7, hy7, hy71, hy72⟩ := bJ h
  refine s_loop rfl ?_
  refine run_forget [0, 1, 5] [] [] rfl rfl rfl rfl ?_
  refine spec_l8Valid_la_run list_1 parties_2 rfl hy7 (fun r' e st hq => by rw [hy71 r' e] at hq; exact hq) (fun u7 hu => ?_)
  replace h := hy72 u7 hu
  refine s_seq rfl ?_
  refine s_reg rfl ?_
  refine o 17 (.isl false ((list_1).map enc_Event)) rfl rfl (e_move rfl) ?_
  refine o 33 (I ((len list_1))) rfl rfl (e_len rfl rfl rfl (l_isl rfl)) ?_
  refine o 49 (B ((decide ((len list_1) ≤ 40)))) rfl rfl (e_bin rfl rfl rfl) ?_
  refine o 65 (B ((decide ((len list_1) ≤ 40)))) rfl rfl (e_move rfl) ?_
  obtain ⟨y8, hy8, hy81, hy82⟩ := bJ h
  have j8 : ∀ u8, y8 = .inr u8 → Run spec_l8Valid_E 0 (spec_l8Valid_Q list_1 parties_2 r) (.code (cR (cR (cR spec_l8Valid_c))) :: []) ⟨mkTm .dead 30 [(4, B (u8))], mkS (rtL [] 1), 1⟩ := by
    intro u8 hu
    replace h := hy82 u8 hu
    obtain rfl := Option.some.inj h
    exact s_ret rfl (fin (vs := [B (u8)]) rfl (absE (absorb_plain rfl) (absEN)) rfl rfl)
  have r8 : ∀ r', y8 = .inl r' → ∀ st, spec_l8Valid_Q list_1 parties_2 r' st → (spec_l8Valid_Q list_1 parties_2 r) st := fun r' e st hq => by rw [hy81 r' e] at hq; exact hq
  replace h := hy8
  refine r_split (b := (decide ((len list_1) ≤ 40))) 26 rfl (fun hb => ?_) (fun hb => ?_)
  · replace h := cT hb h
    refine og 81 (I (parties_2)) rfl rfl rfl rfl (e_move rfl) ?_
    obtain ⟨r9, hr9, h⟩ := bS h
    refine og 97 (B (r9)) rfl rfl rfl rfl (e_callV rfl rfl (call_q rfl rfl rfl (avS (shP rfl) (avS (shP rfl) (avS (shP rfl) (avN)))) (spec_l1In_F hr9) rfl rfl rfl)) ?_
    refine o 113 (B (r9)) rfl rfl (e_pickT rfl rfl) ?_
    refine o 129 (B (r9)) rfl rfl (e_assign rfl) ?_
    refine s_ops ?_
    refine run_forget [4] [] [] rfl rfl rfl rfl ?_
    exact j8 _ (Option.some.inj h).symm
  · replace h := cF hb h
    refine os 81 rfl rfl rfl rfl ?_
    refine os 97 rfl rfl rfl rfl ?_
    refine o 113 (B (false)) rfl rfl (e_pickF rfl rfl) ?_
    refine o 129 (B (false)) rfl rfl (e_assign rfl) ?_
    refine s_ops ?_
    refine run_forget [4] [] [] rfl rfl rfl rfl ?_
    exact j8 _ (Option.some.inj h).symm
noncomputable def spec_l8Valid_ent : Ent := ⟨[false, false], entF2 (decS enc_Event) (decBy I) fun list_1 parties_2 => (spec_l8Valid list_1 parties_2).map fun r => (B (r), [])⟩
theorem spec_l8Valid_F {list_1 : List Event} {parties_2 : Int} {r : Bool} (h : spec_l8Valid list_1 parties_2 = some r) : spec_l8Valid_ent.F [.isl false ((list_1).map enc_Event), I (parties_2)] = some (B (r), []) := by
  have e : spec_l8Valid_ent.F [.isl false ((list_1).map enc_Event), I (parties_2)] = (spec_l8Valid list_1 parties_2).map fun r => (B (r), []) := by
    simp only [spec_l8Valid_ent, entF2, decS, dec_ok (isl_inj enc_Event_inj), dec_ok I_inj, Option.bind_some]
  refine Eq.trans ?_ ((congrArg (Option.map fun r => ((B (r) : V), ([] : List V))) h))
  exact e
theorem spec_l8Valid_good {G : Go.Ln.Ground} (g63 : Good Tryd.prog G 63 spec_l8Event_ent) (g54 : Good Tryd.prog G 54 spec_l1In_ent) : Good Tryd.prog G 68 spec_l8Valid_ent := by
  refine good_of_run (E := spec_l8Valid_E) (fnOf_good (by
    intro p hp
    simp only [List.mem_cons, List.not_mem_nil, or_false] at hp
    rcases hp with rfl | rfl
    · exact g63
    · exact g54)) agree_mk (Checked.mixed Tryd.checked) Tryd.func68 (c := spec_l8Valid_c) (n := 2) ⟨rfl, rfl, by decide⟩ ?_
  intro vs r os h
  obtain ⟨v0, v1, list_1, parties_2, rfl, q0, q1, h9⟩ := entI2 h
  obtain rfl := dec_of q0
  obtain rfl := dec_of q1
  obtain ⟨r1, hr1, he⟩ := Option.map_eq_some_iff.1 h9
  cases he
  exact ⟨rfl, spec_l8Valid_run list_1 parties_2 r1 hr1⟩
noncomputable def spec_l8Good_c : Code := bodyOf Tryd.f49
noncomputable def spec_l8Good_E : Env := mkE Tryd.prog [(77, spec_l8Compare_ent), (68, spec_l8Valid_ent)]
def spec_l8Good_Q (list_1 : List Event) (parties_2 : Int) (r : Bool) (st : St) : Prop := finish spec_l8Good_E Tryd.f49 [false, false] (enter Tryd.f49 [.isl false ((list_1).map enc_Event), I (parties_2)]).1 st = some (B (r), [])
theorem spec_l8Good_la_run (list_1 : List Event) (parties_2 : Int)  {Q : St → Prop} {K : List It} (hK : noD K = true) {x3 : Int} {y : Bool ⊕ Unit} (h : spec_l8Good_la list_1 parties_2 x3 = some y) : (∀ r', y = .inl r' → ∀ st, spec_l8Good_Q list_1 parties_2 r' st → Q st) → (∀ u : Unit, y = .inr u → Run spec_l8Good_E 0 Q K ⟨mkTm .dead 30 [(0, .isl false ((list_1).map enc_Event)), (1, I (parties_2))], mkS (rtL [] 1), 1⟩) → Run spec_l8Good_E 0 Q (.code (cL (cL (cR (cL (cR spec_l8Good_c))))) :: .lp (cL (cL (cR (cL (cR spec_l8Good_c))))) :: .blk 0 :: K) ⟨mkTm .dead 30 [(0, .isl false ((list_1).map enc_Event)), (1, I (parties_2)), (5, I (x3))], mkS (rtL [] 1), 1⟩ := by
  refine fix_ind (P := fun (x3 : Int) (y : Bool ⊕ Unit) => (∀ r', y = .inl r' → ∀ st, spec_l8Good_Q list_1 parties_2 r' st → Q st) → (∀ u : Unit, y = .inr u → Run spec_l8Good_E 0 Q K ⟨mkTm .dead 30 [(0, .isl false ((list_1).map enc_Event)), (1, I (parties_2))], mkS (rtL [] 1), 1⟩) → Run spec_l8Good_E 0 Q (.code (cL (cL (cR (cL (cR spec_l8Good_c))))) :: .lp (cL (cL (cR (cL (cR spec_l8Good_c))))) :: .blk 0 :: K) ⟨mkTm .dead 30 [(0, .isl false ((list_1).map enc_Event)), (1, I (parties_2)), (5, I (x3))], mkS (rtL [] 1), 1⟩) (spec_l8Good_la_fin list_1 parties_2) ?_ h
  clear h y x3
  intro self ih x3 y h hr hn
  unfold spec_l8Good_la_F at h
  refine s_seq rfl ?_
  refine s_seq rfl ?_
  refine s_reg rfl ?_
  refine o 17 (I (x3)) rfl rfl (e_move rfl) ?_
  refine o 33 (.isl false ((list_1).map enc_Event)) rfl rfl (e_move rfl) ?_
  refine o 49 (I ((len list_1))) rfl rfl (e_len rfl rfl rfl (l_isl rfl)) ?_
  refine o 65 (B ((decide (x3 < (len list_1))))) rfl rfl (e_bin rfl rfl rfl) ?_
  refine o 81 (B ((decide (x3 < (len list_1))))) rfl rfl (e_move rfl) ?_
  obtain ⟨u4, hu4, h⟩ := lJ h
  have j4 : Run spec_l8Good_E 0 Q (.code (cR (cL (cL (cL (cR (cL (cR spec_l8Good_c))))))) :: .code (cR (cL (cL (cR (cL (cR spec_l8Good_c)))))) :: .lp (cL (cL (cR (cL (cR spec_l8Good_c))))) :: .blk 0 :: K) ⟨mkTm .dead 30 [(0, .isl false ((list_1).map enc_Event)), (1, I (parties_2)), (5, I (x3)), (13, B (u4))], mkS (rtL [] 1), 1⟩ := by
    refine s_cond rfl rfl (fun hb => ?_) (fun hb => ?_)
    · replace h := cT hb h
      refine s_skip rfl ?_
      refine s_seq rfl ?_
      refine s_block rfl ?_
      refine s_seq rfl ?_
      refine s_draw [0, 0, 2, 7, 15, 0, 0, 96, 224, 511, 1023] rfl (by decide +kernel) ?_
      refine dp [] [] (.isl false ((list_1).map enc_Event)) rfl (e_move rfl) rfl (rfl) (by decide) ?_
      refine dp [] [] (I (x3)) rfl (e_move rfl) rfl (rfl) (by decide) ?_
      refine dp [] [] (I ((w64 (x3 - 1)))) rfl (e_bin rfl rfl rfl) rfl (rfl) (by decide) ?_
      obtain ⟨e5, he5, h⟩ := bS h
      refine dp [] [] (.iptr (.agg [I (e5.Day), I (e5.Party), str (e5.Action), I (e5.Amount)]) 0) rfl (e_indexAddr rfl rfl rfl (ix_islE rfl rfl rfl rfl he5)) rfl (rfl) (by decide) ?_
      refine dp [] [] (.agg [I (e5.Day), I (e5.Party), str (e5.Action), I (e5.Amount)]) rfl (e_ld rfl rfl) rfl (rfl) (by decide) ?_
      refine dp [] [] (.isl false ((list_1).map enc_Event)) rfl (e_move rfl) rfl (rfl) (by decide) ?_
      refine dp [] [] (I (x3)) rfl (e_move rfl) rfl (rfl) (by decide) ?_
      obtain ⟨e6, he6, h⟩ := bS h
      refine dp [] [] (.iptr (.agg [I (e6.Day), I (e6.Party), str (e6.Action), I (e6.Amount)]) 0) rfl (e_indexAddr rfl rfl rfl (ix_islE rfl rfl rfl rfl he6)) rfl (rfl) (by decide) ?_
      refine dp [] [] (.agg [I (e6.Day), I (e6.Party), str (e6.Action), I (e6.Amount)]) rfl (e_ld rfl rfl) rfl (rfl) (by decide) ?_
      obtain ⟨r7, hr7, h⟩ := bS h
      refine dp [] [] (I (r7)) rfl (e_callV rfl rfl (call_q rfl rfl rfl (avS (shP rfl) (avS (shP rfl) (avN))) (spec_l8Compare_F hr7) rfl rfl rfl)) rfl (w_call rfl rfl rfl rfl (avS (shP rfl) (avS (shP rfl) (avN))) (spec_l8Compare_F hr7) rfl) (by decide) ?_
      refine dp [] [] (B ((decide (r7 > 0)))) rfl (e_bin rfl rfl rfl) rfl (rfl) (by decide) ?_
      refine de 177 rfl rfl ?_
      refine s_cond rfl rfl (fun hb => ?_) (fun hb => ?_)
      · replace h := cT hb h
        refine s_seq rfl ?_
        refine s_reg rfl ?_
        refine o 193 (B (false)) rfl rfl (e_assign rfl) ?_
        refine s_ops ?_
        exact s_ret rfl (hr _ (Option.some.inj h).symm _ (fin (vs := [B (false)]) rfl (absE (absorb_plain rfl) (absEN)) rfl rfl))
      · replace h := cF hb h
        refine s_skip rfl ?_
        refine s_blk ?_
        refine s_reg rfl ?_
        refine o 193 (I (x3)) rfl rfl (e_move rfl) ?_
        refine o 209 (I ((w64 (x3 + 1)))) rfl rfl (e_bin rfl rfl rfl) ?_
        refine o 225 (I ((w64 (x3 + 1)))) rfl rfl (e_assign rfl) ?_
        refine s_ops ?_
        refine s_lp ?_
        refine run_forget [0, 1, 5] [] [] rfl rfl rfl rfl ?_
        exact ih _ _ h hr hn
    · replace h := cF hb h
      refine s_exit rfl rfl ?_
      refine run_forget [0, 1] [] [] rfl rfl rfl hK ?_
      exact hn _ (Option.some.inj h).symm
  replace h := hu4
  clear hu4
  refine r_split (b := (decide (x3 < (len list_1)))) 10 rfl (fun hb => ?_) (fun hb => ?_)
  · replace h := cTp hb h
    refine og 97 (I (x3)) rfl rfl rfl rfl (e_move rfl) ?_
    refine og 113 (B ((decide (x3 ≤ 40)))) rfl rfl rfl rfl (e_bin rfl rfl rfl) ?_
    refine o 129 (B ((decide (x3 ≤ 40)))) rfl rfl (e_pickT rfl rfl) ?_
    refine s_ops ?_
    refine run_forget [0, 1, 5, 13] [] [] rfl rfl rfl rfl ?_
    subst h
    exact j4
  · replace h := cFp hb h
    refine os 97 rfl rfl rfl rfl ?_
    refine os 113 rfl rfl rfl rfl ?_
    refine o 129 (B (false)) rfl rfl (e_pickF rfl rfl) ?_
    refine s_ops ?_
    refine run_forget [0, 1, 5, 13] [] [] rfl rfl rfl rfl ?_
    subst h
    exact j4
theorem spec_l8Good_run (list_1 : List Event) (parties_2 : Int) (r : Bool) (h : spec_l8Good list_1 parties_2 = some r) : Run spec_l8Good_E 0 (spec_l8Good_Q list_1 parties_2 r) [.code spec_l8Good_c] (enter Tryd.f49 [.isl false ((list_1).map enc_Event), I (parties_2)]).2 := by
  refine run_at (enter_eq (ys := [.isl false ((list_1).map enc_Event), I (parties_2)]) (R := []) (n := 30) (l := [(0, .isl false ((list_1).map enc_Event)), (1, I (parties_2))]) (nx := 1) rfl rfl rfl) ?_
  unfold spec_l8Good at h
  refine s_seq rfl ?_
  refine s_reg rfl ?_
  refine o 17 (B (false)) rfl rfl (e_assign rfl) ?_
  refine s_ops ?_
  refine s_seq rfl ?_
  refine s_seq rfl ?_
  refine s_reg rfl ?_
  refine o 33 (I (1)) rfl rfl (e_assign rfl) ?_
  refine s_ops ?_
  refine s_block rfl ?_
  obtain ⟨y8, hy8, hy81, hy82⟩ := bJ h
  refine s_loop rfl ?_
  refine run_forget [0, 1, 5] [] [] rfl rfl rfl rfl ?_
  refine spec_l8Good_la_run list_1 parties_2 rfl hy8 (fun r' e st hq => by rw [hy81 r' e] at hq; exact hq) (fun u8 hu => ?_)
  replace h := hy82 u8 hu
  refine s_seq rfl ?_
  refine s_reg rfl ?_
  refine o 17 (.isl false ((list_1).map enc_Event)) rfl rfl (e_move rfl) ?_
  refine o 33 (I (parties_2)) rfl rfl (e_move rfl) ?_
  obtain ⟨r9, hr9, h⟩ := bS h
  refine o 49 (B (r9)) rfl rfl (e_callV rfl rfl (call_q rfl rfl rfl (avS (shP rfl) (avS (shP rfl) (avN))) (spec_l8Valid_F hr9) rfl rfl rfl)) ?_
  refine o 65 (B (r9)) rfl rfl (e_assign rfl) ?_
  refine s_ops ?_
  obtain rfl := Option.some.inj h
  exact s_ret rfl (fin (vs := [B (r9)]) rfl (absE (absorb_plain rfl) (absEN)) rfl rfl)
noncomputable def spec_l8Good_ent : Ent := ⟨[false, false], entF2 (decS enc_Event) (decBy I) fun list_1 parties_2 => (spec_l8Good list_1 parties_2).map fun r => (B (r), [])⟩
theorem spec_l8Good_F {list_1 : List Event} {parties_2 : Int} {r : Bool} (h : spec_l8Good list_1 parties_2 = some r) : spec_l8Good_ent.F [.isl false ((list_1).map enc_Event), I (parties_2)] = some (B (r), []) := by
  have e : spec_l8Good_ent.F [.isl false ((list_1).map enc_Event), I (parties_2)] = (spec_l8Good list_1 parties_2).map fun r => (B (r), []) := by
    simp only [spec_l8Good_ent, entF2, decS, dec_ok (isl_inj enc_Event_inj), dec_ok I_inj, Option.bind_some]
  refine Eq.trans ?_ ((congrArg (Option.map fun r => ((B (r) : V), ([] : List V))) h))
  exact e
theorem spec_l8Good_good {G : Go.Ln.Ground} (g77 : Good Tryd.prog G 77 spec_l8Compare_ent) (g68 : Good Tryd.prog G 68 spec_l8Valid_ent) : Good Tryd.prog G 49 spec_l8Good_ent := by
  refine good_of_run (E := spec_l8Good_E) (fnOf_good (by
    intro p hp
    simp only [List.mem_cons, List.not_mem_nil, or_false] at hp
    rcases hp with rfl | rfl
    · exact g77
    · exact g68)) agree_mk (Checked.mixed Tryd.checked) Tryd.func49 (c := spec_l8Good_c) (n := 2) ⟨rfl, rfl, by decide⟩ ?_
  intro vs r os h
  obtain ⟨v0, v1, list_1, parties_2, rfl, q0, q1, h9⟩ := entI2 h
  obtain rfl := dec_of q0
  obtain rfl := dec_of q1
  obtain ⟨r1, hr1, he⟩ := Option.map_eq_some_iff.1 h9
  cases he
  exact ⟨rfl, spec_l8Good_run list_1 parties_2 r1 hr1⟩
noncomputable def spec_CountActions_c : Code := bodyOf Tryd.f18
noncomputable def spec_CountActions_E : Env := mkE Tryd.prog [(49, spec_l8Good_ent)]
def spec_CountActions_Q (list_1 : List Event) (parties_2 : Int) (party_3 : Int) (action_4 : Str) (r : Int × Int × Bool) (st : St) : Prop := finish spec_CountActions_E Tryd.f18 [false, false, false, false] (enter Tryd.f18 [.isl false ((list_1).map enc_Event), I (parties_2), I (party_3), str (action_4)]).1 st = some (.tup [I (r.1), I (r.2.1), B (r.2.2)], [])
theorem spec_CountActions_la_run (list_1 : List Event) (parties_2 : Int) (party_3 : Int) (action_4 : Str)  {Q : St → Prop} {K : List It} (hK : noD K = true) {x6 : Int × Int × Int} {y : (Int × Int × Bool) ⊕ (Int × Int)} (h : spec_CountActions_la list_1 parties_2 party_3 action_4 x6 = some y) : (∀ r', y = .inl r' → ∀ st, spec_CountActions_Q list_1 parties_2 party_3 action_4 r' st → Q st) → (∀ u : Int × Int, y = .inr u → Run spec_CountActions_E 0 Q K ⟨mkTm .dead 51 [(11, I (u.1)), (12, I (u.2))], mkS (rtL [] 1), 1⟩) → Run spec_CountActions_E 0 Q (.code (cL (cL (cR (cL (cR (cR (cR spec_CountActions_c))))))) :: .lp (cL (cL (cR (cL (cR (cR (cR spec_CountActions_c))))))) :: .blk 0 :: K) ⟨mkTm .dead 51 [(0, .isl false ((list_1).map enc_Event)), (2, I (party_3)), (3, str (action_4)), (11, I (x6.1)), (12, I (x6.2.1)), (13, I (x6.2.2))], mkS (rtL [] 1), 1⟩ := by
  refine fix_ind (P := fun (x6 : Int × Int × Int) (y : (Int × Int × Bool) ⊕ (Int × Int)) => (∀ r', y = .inl r' → ∀ st, spec_CountActions_Q list_1 parties_2 party_3 action_4 r' st → Q st) → (∀ u : Int × Int, y = .inr u → Run spec_CountActions_E 0 Q K ⟨mkTm .dead 51 [(11, I (u.1)), (12, I (u.2))], mkS (rtL [] 1), 1⟩) → Run spec_CountActions_E 0 Q (.code (cL (cL (cR (cL (cR (cR (cR spec_CountActions_c))))))) :: .lp (cL (cL (cR (cL (cR (cR (cR spec_CountActions_c))))))) :: .blk 0 :: K) ⟨mkTm .dead 51 [(0, .isl false ((list_1).map enc_Event)), (2, I (party_3)), (3, str (action_4)), (11, I (x6.1)), (12, I (x6.2.1)), (13, I (x6.2.2))], mkS (rtL [] 1), 1⟩) (spec_CountActions_la_fin list_1 parties_2 party_3 action_4) ?_ h
  clear h y x6
  intro self ih x6 y h hr hn
  unfold spec_CountActions_la_F at h
  refine s_seq rfl ?_
  refine s_seq rfl ?_
  refine s_reg rfl ?_
  refine o 17 (I (x6.2.2)) rfl rfl (e_move rfl) ?_
  refine o 33 (.isl false ((list_1).map enc_Event)) rfl rfl (e_move rfl) ?_
  refine o 49 (I ((len list_1))) rfl rfl (e_len rfl rfl rfl (l_isl rfl)) ?_
  refine o 65 (B ((decide (x6.2.2 < (len list_1))))) rfl rfl (e_bin rfl rfl rfl) ?_
  refine s_ops ?_
  refine s_cond rfl rfl (fun hb => ?_) (fun hb => ?_)
  · replace h := cT hb h
    refine s_skip rfl ?_
    refine s_seq rfl ?_
    refine s_block rfl ?_
    refine s_seq rfl ?_
    refine s_reg rfl ?_
    refine o 81 (.isl false ((list_1).map enc_Event)) rfl rfl (e_move rfl) ?_
    refine o 97 (I (x6.2.2)) rfl rfl (e_move rfl) ?_
    obtain ⟨e7, he7, h⟩ := bS h
    refine o 113 (.iptr (.agg [I (e7.Day), I (e7.Party), str (e7.Action), I (e7.Amount)]) 0) rfl rfl (e_indexAddr rfl rfl rfl (ix_islE rfl rfl rfl rfl he7)) ?_
    refine o 129 (.iptr (.agg [I (e7.Day), I (e7.Party), str (e7.Action), I (e7.Amount)]) 1) rfl rfl (e_fieldAddr rfl rfl rfl) ?_
    refine o 145 (I (e7.Party)) rfl rfl (e_ld rfl rfl) ?_
    refine o 161 (I (party_3)) rfl rfl (e_move rfl) ?_
    refine o 177 (B ((e7.Party == party_3))) rfl rfl (e_bin rfl rfl rfl) ?_
    refine o 193 (B ((e7.Party == party_3))) rfl rfl (e_move rfl) ?_
    obtain ⟨y8, hy8, hy81, hy82⟩ := bL h
    have j8 : ∀ u8, y8 = .inr u8 → Run spec_CountActions_E 0 Q (.code (cR (cL (cL (cR (cL (cL (cR (cL (cR (cR (cR spec_CountActions_c))))))))))) :: .blk 1 :: .code (cR (cR (cL (cL (cR (cL (cR (cR (cR spec_CountActions_c))))))))) :: .lp (cL (cL (cR (cL (cR (cR (cR spec_CountActions_c))))))) :: .blk 0 :: K) ⟨mkTm .dead 51 [(0, .isl false ((list_1).map enc_Event)), (2, I (party_3)), (3, str (action_4)), (11, I (x6.1)), (12, I (x6.2.1)), (13, I (x6.2.2)), (39, B (u8))], mkS (rtL [] 1), 1⟩ := by
      intro u8 hu
      replace h := hy82 u8 hu
      obtain ⟨y9, hy9, hy91, hy92⟩ := bL h
      have j9 : ∀ u9, y9 = .inr u9 → Run spec_CountActions_E 0 Q (.blk 1 :: .code (cR (cR (cL (cL (cR (cL (cR (cR (cR spec_CountActions_c))))))))) :: .lp (cL (cL (cR (cL (cR (cR (cR spec_CountActions_c))))))) :: .blk 0 :: K) ⟨mkTm .dead 51 [(0, .isl false ((list_1).map enc_Event)), (2, I (party_3)), (3, str (action_4)), (11, I (u9.1)), (12, I (u9.2)), (13, I (x6.2.2))], mkS (rtL [] 1), 1⟩ := by
        intro u9 hu
        replace h := hy92 u9 hu
        refine s_blk ?_
        refine s_reg rfl ?_
        refine o 17 (I (x6.2.2)) rfl rfl (e_move rfl) ?_
        refine o 33 (I ((w64 (x6.2.2 + 1)))) rfl rfl (e_bin rfl rfl rfl) ?_
        refine o 49 (I ((w64 (x6.2.2 + 1)))) rfl rfl (e_assign rfl) ?_
        refine s_ops ?_
        refine s_lp ?_
        refine run_forget [0, 2, 3, 11, 12, 13] [] [] rfl rfl rfl rfl ?_
        exact ih _ _ h hr hn
      have r9 : ∀ r', y9 = .inl r' → ∀ st, spec_CountActions_Q list_1 parties_2 party_3 action_4 r' st → Q st := fun r' e st hq => hr r' (hy91 r' e) st hq
      replace h := hy9
      refine s_cond rfl rfl (fun hb => ?_) (fun hb => ?_)
      · replace h := cT hb h
        refine s_seq rfl ?_
        refine s_reg rfl ?_
        refine o 17 (I (x6.1)) rfl rfl (e_move rfl) ?_
        refine o 33 (I ((w64 (x6.1 + 1)))) rfl rfl (e_bin rfl rfl rfl) ?_
        refine o 49 (I ((w64 (x6.1 + 1)))) rfl rfl (e_assign rfl) ?_
        refine s_ops ?_
        refine s_reg rfl ?_
        refine o 65 (I (x6.2.1)) rfl rfl (e_move rfl) ?_
        refine o 81 (.isl false ((list_1).map enc_Event)) rfl rfl (e_move rfl) ?_
        refine o 97 (I (x6.2.2)) rfl rfl (e_move rfl) ?_
        obtain ⟨e10, he10, h⟩ := bS h
        refine o 113 (.iptr (.agg [I (e10.Day), I (e10.Party), str (e10.Action), I (e10.Amount)]) 0) rfl rfl (e_indexAddr rfl rfl rfl (ix_islE rfl rfl rfl rfl he10)) ?_
        refine o 129 (.iptr (.agg [I (e10.Day), I (e10.Party), str (e10.Action), I (e10.Amount)]) 3) rfl rfl (e_fieldAddr rfl rfl rfl) ?_
        refine o 145 (I (e10.Amount)) rfl rfl (e_ld rfl rfl) ?_
        refine o 161 (I ((w64 (x6.2.1 + e10.Amount)))) rfl rfl (e_bin rfl rfl rfl) ?_
        refine o 177 (I ((w64 (x6.2.1 + e10.Amount)))) rfl rfl (e_assign rfl) ?_
        refine s_ops ?_
        refine run_forget [0, 2, 3, 11, 12, 13] [] [] rfl rfl rfl rfl ?_
        exact j9 _ (Option.some.inj h).symm
      · replace h := cF hb h
        refine s_skip rfl ?_
        refine run_forget [0, 2, 3, 11, 12, 13] [] [] rfl rfl rfl rfl ?_
        exact j9 _ (Option.some.inj h).symm
    have r8 : ∀ r', y8 = .inl r' → ∀ st, spec_CountActions_Q list_1 parties_2 party_3 action_4 r' st → Q st := fun r' e st hq => hr r' (hy81 r' e) st hq
    replace h := hy8
    refine r_split (b := (e7.Party == party_3)) 31 rfl (fun hb => ?_) (fun hb => ?_)
    · replace h := cT hb h
      refine og 209 (.isl false ((list_1).map enc_Event)) rfl rfl rfl rfl (e_move rfl) ?_
      refine og 225 (I (x6.2.2)) rfl rfl rfl rfl (e_move rfl) ?_
      obtain ⟨e11, he11, h⟩ := bS h
      refine og 241 (.iptr (.agg [I (e11.Day), I (e11.Party), str (e11.Action), I (e11.Amount)]) 0) rfl rfl rfl rfl (e_indexAddr rfl rfl rfl (ix_islE rfl rfl rfl rfl he11)) ?_
      refine og 257 (.iptr (.agg [I (e11.Day), I (e11.Party), str (e11.Action), I (e11.Amount)]) 2) rfl rfl rfl rfl (e_fieldAddr rfl rfl rfl) ?_
      refine og 273 (str (e11.Action)) rfl rfl rfl rfl (e_ld rfl rfl) ?_
      refine og 289 (str (action_4)) rfl rfl rfl rfl (e_move rfl) ?_
      refine og 305 (B ((e11.Action == action_4))) rfl rfl rfl rfl (e_bin rfl rfl b_streq) ?_
      refine o 321 (B ((e11.Action == action_4))) rfl rfl (e_pickT rfl rfl) ?_
      refine s_ops ?_
      refine run_forget [0, 2, 3, 11, 12, 13, 39] [] [] rfl rfl rfl rfl ?_
      exact j8 _ (Option.some.inj h).symm
    · replace h := cF hb h
      refine os 209 rfl rfl rfl rfl ?_
      refine os 225 rfl rfl rfl rfl ?_
      refine os 241 rfl rfl rfl rfl ?_
      refine os 257 rfl rfl rfl rfl ?_
      refine os 273 rfl rfl rfl rfl ?_
      refine os 289 rfl rfl rfl rfl ?_
      refine os 305 rfl rfl rfl rfl ?_
      refine o 321 (B (false)) rfl rfl (e_pickF rfl rfl) ?_
      refine s_ops ?_
      refine run_forget [0, 2, 3, 11, 12, 13, 39] [] [] rfl rfl rfl rfl ?_
      exact j8 _ (Option.some.inj h).symm
  · replace h := cF hb h
    refine s_exit rfl rfl ?_
    refine run_forget [11, 12] [] [] rfl rfl rfl hK ?_
    exact hn _ (Option.some.inj h).symm
theorem spec_CountActions_run (list_1 : List Event) (parties_2 : Int) (party_3 : Int) (action_4 : Str) (r : Int × Int × Bool) (h : spec_CountActions list_1 parties_2 party_3 action_4 = some r) : Run spec_CountActions_E 0 (spec_CountActions_Q list_1 parties_2 party_3 action_4 r) [.code spec_CountActions_c] (enter Tryd.f18 [.isl false ((list_1).map enc_Event), I (parties_2), I (party_3), str (action_4)]).2 := by
  refine run_at (enter_eq (ys := [.isl false ((list_1).map enc_Event), I (parties_2), I (party_3), str (action_4)]) (R := []) (n := 51) (l := [(0, .isl false ((list_1).map enc_Event)), (1, I (parties_2)), (2, I (party_3)), (3, str (action_4))]) (nx := 1) rfl rfl rfl) ?_
  unfold spec_CountActions at h
  refine s_seq rfl ?_
  refine s_reg rfl ?_
  refine o 17 (I (0)) rfl rfl (e_assign rfl) ?_
  refine o 33 (I (0)) rfl rfl (e_assign rfl) ?_
  refine o 49 (B (false)) rfl rfl (e_assign rfl) ?_
  refine s_ops ?_
  refine s_seq rfl ?_
  refine s_seq rfl ?_
  refine s_reg rfl ?_
  refine o 65 (.isl false ((list_1).map enc_Event)) rfl rfl (e_move rfl) ?_
  refine o 81 (I (parties_2)) rfl rfl (e_move rfl) ?_
  obtain ⟨r5, hr5, h⟩ := bS h
  refine o 97 (B (r5)) rfl rfl (e_callV rfl rfl (call_q rfl rfl rfl (avS (shP rfl) (avS (shP rfl) (avN))) (spec_l8Good_F hr5) rfl rfl rfl)) ?_
  refine o 113 (B ((!r5))) rfl rfl (e_un rfl rfl) ?_
  refine s_ops ?_
  refine s_cond rfl rfl (fun hb => ?_) (fun hb => ?_)
  · replace h := cT hb h
    refine s_seq rfl ?_
    refine s_reg rfl ?_
    refine o 129 (I (0)) rfl rfl (e_assign rfl) ?_
    refine o 145 (I (0)) rfl rfl (e_assign rfl) ?_
    refine o 161 (B (false)) rfl rfl (e_assign rfl) ?_
    refine s_ops ?_
    obtain rfl := Option.some.inj h
    exact s_ret rfl (fin (vs := [I (0), I (0), B (false)]) rfl (absE (absorb_plain rfl) (absE (absorb_plain rfl) (absE (absorb_plain rfl) (absEN)))) rfl rfl)
  · replace h := cF hb h
    refine s_skip rfl ?_
    refine s_seq rfl ?_
    refine s_reg rfl ?_
    refine o 129 (I (0)) rfl rfl (e_assign rfl) ?_
    refine o 145 (I (0)) rfl rfl (e_assign rfl) ?_
    refine s_ops ?_
    refine s_seq rfl ?_
    refine s_seq rfl ?_
    refine s_reg rfl ?_
    refine o 161 (I (0)) rfl rfl (e_assign rfl) ?_
    refine s_ops ?_
    refine s_block rfl ?_
    obtain ⟨y12, hy12, hy121, hy122⟩ := bJ h
    refine s_loop rfl ?_
    refine run_forget [0, 2, 3, 11, 12, 13] [] [] rfl rfl rfl rfl ?_
    refine spec_CountActions_la_run list_1 parties_2 party_3 action_4 rfl hy12 (fun r' e st hq => by rw [hy121 r' e] at hq; exact hq) (fun u12 hu => ?_)
    replace h := hy122 u12 hu
    refine s_seq rfl ?_
    refine s_reg rfl ?_
    refine o 17 (I (u12.1)) rfl rfl (e_move rfl) ?_
    refine o 33 (I (u12.2)) rfl rfl (e_move rfl) ?_
    refine o 49 (I (u12.1)) rfl rfl (e_assign rfl) ?_
    refine o 65 (I (u12.2)) rfl rfl (e_assign rfl) ?_
    refine o 81 (B (true)) rfl rfl (e_assign rfl) ?_
    refine s_ops ?_
    obtain rfl := Option.some.inj h
    exact s_ret rfl (fin (vs := [I (u12.1), I (u12.2), B (true)]) rfl (absE (absorb_plain rfl) (absE (absorb_plain rfl) (absE (absorb_plain rfl) (absEN)))) rfl rfl)
noncomputable def spec_CountActions_ent : Ent := ⟨[false, false, false, false], entF4 (decS enc_Event) (decBy I) (decBy I) (decBy str) fun list_1 parties_2 party_3 action_4 => (spec_CountActions list_1 parties_2 party_3 action_4).map fun r => (.tup [I (r.1), I (r.2.1), B (r.2.2)], [])⟩
theorem spec_CountActions_F {list_1 : List Event} {parties_2 : Int} {party_3 : Int} {action_4 : Str} {r : Int × Int × Bool} (h : spec_CountActions list_1 parties_2 party_3 action_4 = some r) : spec_CountActions_ent.F [.isl false ((list_1).map enc_Event), I (parties_2), I (party_3), str (action_4)] = some (.tup [I (r.1), I (r.2.1), B (r.2.2)], []) := by
  have e : spec_CountActions_ent.F [.isl false ((list_1).map enc_Event), I (parties_2), I (party_3), str (action_4)] = (spec_CountActions list_1 parties_2 party_3 action_4).map fun r => (.tup [I (r.1), I (r.2.1), B (r.2.2)], []) := by
    simp only [spec_CountActions_ent, entF4, decS, dec_ok (isl_inj enc_Event_inj), dec_ok I_inj, dec_ok I_inj, dec_ok str_inj, Option.bind_some]
  refine Eq.trans ?_ ((congrArg (Option.map fun r => ((.tup [I (r.1), I (r.2.1), B (r.2.2)] : V), ([] : List V))) h))
  exact e
theorem spec_CountActions_good {G : Go.Ln.Ground} (g49 : Good Tryd.prog G 49 spec_l8Good_ent) : Good Tryd.prog G 18 spec_CountActions_ent := by
  refine good_of_run (E := spec_CountActions_E) (fnOf_good (by
    intro p hp
    simp only [List.mem_cons, List.not_mem_nil, or_false] at hp
    rcases hp with rfl
    · exact g49)) agree_mk (Checked.mixed Tryd.checked) Tryd.func18 (c := spec_CountActions_c) (n := 4) ⟨rfl, rfl, by decide⟩ ?_
  intro vs r os h
  obtain ⟨v0, v1, v2, v3, list_1, parties_2, party_3, action_4, rfl, q0, q1, q2, q3, h9⟩ := entI4 h
  obtain rfl := dec_of q0
  obtain rfl := dec_of q1
  obtain rfl := dec_of q2
  obtain rfl := dec_of q3
  obtain ⟨r1, hr1, he⟩ := Option.map_eq_some_iff.1 h9
  cases he
  exact ⟨rfl, spec_CountActions_run list_1 parties_2 party_3 action_4 r1 hr1⟩
noncomputable def impl_within_c : Code := bodyOf Tryd.f55
noncomputable def impl_within_E : Env := mkE Tryd.prog []
def impl_within_Q (n_1 : Int) (low_2 : Int) (high_3 : Int) (r : Bool) (st : St) : Prop := finish impl_within_E Tryd.f55 [false, false, false] (enter Tryd.f55 [I (n_1), I (low_2), I (high_3)]).1 st = some (B (r), [])
theorem impl_within_run (n_1 : Int) (low_2 : Int) (high_3 : Int) (r : Bool) (h : impl_within n_1 low_2 high_3 = some r) : Run impl_within_E 0 (impl_within_Q n_1 low_2 high_3 r) [.code impl_within_c] (enter Tryd.f55 [I (n_1), I (low_2), I (high_3)]).2 := by
  refine run_at (enter_eq (ys := [I (n_1), I (low_2), I (high_3)]) (R := []) (n := 15) (l := [(0, I (n_1)), (1, I (low_2)), (2, I (high_3))]) (nx := 1) rfl rfl rfl) ?_
  unfold impl_within at h
  refine s_seq rfl ?_
  refine s_reg rfl ?_
  refine o 17 (B (false)) rfl rfl (e_assign rfl) ?_
  refine s_ops ?_
  refine s_seq rfl ?_
  refine s_reg rfl ?_
  refine o 33 (I (n_1)) rfl rfl (e_move rfl) ?_
  refine o 49 (I (low_2)) rfl rfl (e_move rfl) ?_
  refine o 65 (B ((decide (n_1 ≥ low_2)))) rfl rfl (e_bin rfl rfl rfl) ?_
  refine o 81 (B ((decide (n_1 ≥ low_2)))) rfl rfl (e_move rfl) ?_
  obtain ⟨u4, hu4, h⟩ := lJ h
  have j4 : Run impl_within_E 0 (impl_within_Q n_1 low_2 high_3 r) (.code (cR (cR impl_within_c)) :: []) ⟨mkTm .dead 15 [(6, B (u4))], mkS (rtL [] 1), 1⟩ := by
    obtain rfl := Option.some.inj h
    exact s_ret rfl (fin (vs := [B (u4)]) rfl (absE (absorb_plain rfl) (absEN)) rfl rfl)
  replace h := hu4
  clear hu4
  refine r_split (b := (decide (n_1 ≥ low_2))) 10 rfl (fun hb => ?_) (fun hb => ?_)
  · replace h := cTp hb h
    refine og 97 (I (n_1)) rfl rfl rfl rfl (e_move rfl) ?_
    refine og 113 (I (high_3)) rfl rfl rfl rfl (e_move rfl) ?_
    refine og 129 (B ((decide (n_1 ≤ high_3)))) rfl rfl rfl rfl (e_bin rfl rfl rfl) ?_
    refine o 145 (B ((decide (n_1 ≤ high_3)))) rfl rfl (e_pickT rfl rfl) ?_
    refine o 161 (B ((decide (n_1 ≤ high_3)))) rfl rfl (e_assign rfl) ?_
    refine s_ops ?_
    refine run_forget [6] [] [] rfl rfl rfl rfl ?_
    subst h
    exact j4
  · replace h := cFp hb h
    refine os 97 rfl rfl rfl rfl ?_
    refine os 113 rfl rfl rfl rfl ?_
    refine os 129 rfl rfl rfl rfl ?_
    refine o 145 (B (false)) rfl rfl (e_pickF rfl rfl) ?_
    refine o 161 (B (false)) rfl rfl (e_assign rfl) ?_
    refine s_ops ?_
    refine run_forget [6] [] [] rfl rfl rfl rfl ?_
    subst h
    exact j4
noncomputable def impl_within_ent : Ent := ⟨[false, false, false], entF3 (decBy I) (decBy I) (decBy I) fun n_1 low_2 high_3 => (impl_within n_1 low_2 high_3).map fun r => (B (r), [])⟩
theorem impl_within_F {n_1 : Int} {low_2 : Int} {high_3 : Int} {r : Bool} (h : impl_within n_1 low_2 high_3 = some r) : impl_within_ent.F [I (n_1), I (low_2), I (high_3)] = some (B (r), []) := by
  have e : impl_within_ent.F [I (n_1), I (low_2), I (high_3)] = (impl_within n_1 low_2 high_3).map fun r => (B (r), []) := by
    simp only [impl_within_ent, entF3, decS, dec_ok I_inj, dec_ok I_inj, dec_ok I_inj, Option.bind_some]
  refine Eq.trans ?_ ((congrArg (Option.map fun r => ((B (r) : V), ([] : List V))) h))
  exact e
theorem impl_within_good {G : Go.Ln.Ground} : Good Tryd.prog G 55 impl_within_ent := by
  refine good_of_run (E := impl_within_E) (fnOf_good (by simp)) agree_mk (Checked.mixed Tryd.checked) Tryd.func55 (c := impl_within_c) (n := 3) ⟨rfl, rfl, by decide⟩ ?_
  intro vs r os h
  obtain ⟨v0, v1, v2, n_1, low_2, high_3, rfl, q0, q1, q2, h9⟩ := entI3 h
  obtain rfl := dec_of q0
  obtain rfl := dec_of q1
  obtain rfl := dec_of q2
  obtain ⟨r1, hr1, he⟩ := Option.map_eq_some_iff.1 h9
  cases he
  exact ⟨rfl, impl_within_run n_1 low_2 high_3 r1 hr1⟩
noncomputable def impl_isDay_c : Code := bodyOf Tryd.f91
noncomputable def impl_isDay_E : Env := mkE Tryd.prog [(55, impl_within_ent)]
def impl_isDay_Q (day_1 : Int) (r : Bool) (st : St) : Prop := finish impl_isDay_E Tryd.f91 [false] (enter Tryd.f91 [I (day_1)]).1 st = some (B (r), [])
theorem impl_isDay_run (day_1 : Int) (r : Bool) (h : impl_isDay day_1 = some r) : Run impl_isDay_E 0 (impl_isDay_Q day_1 r) [.code impl_isDay_c] (enter Tryd.f91 [I (day_1)]).2 := by
  refine run_at (enter_eq (ys := [I (day_1)]) (R := []) (n := 5) (l := [(0, I (day_1))]) (nx := 1) rfl rfl rfl) ?_
  unfold impl_isDay at h
  refine s_seq rfl ?_
  refine s_reg rfl ?_
  refine o 17 (B (false)) rfl rfl (e_assign rfl) ?_
  refine s_ops ?_
  refine s_seq rfl ?_
  refine s_reg rfl ?_
  refine o 33 (I (day_1)) rfl rfl (e_move rfl) ?_
  obtain ⟨r2, hr2, h⟩ := bS h
  refine o 49 (B (r2)) rfl rfl (e_callV rfl rfl (call_q rfl rfl rfl (avS (shP rfl) (avS (shP rfl) (avS (shP rfl) (avN)))) (impl_within_F hr2) rfl rfl rfl)) ?_
  refine o 65 (B (r2)) rfl rfl (e_assign rfl) ?_
  refine s_ops ?_
  obtain rfl := Option.some.inj h
  exact s_ret rfl (fin (vs := [B (r2)]) rfl (absE (absorb_plain rfl) (absEN)) rfl rfl)
noncomputable def impl_isDay_ent : Ent := ⟨[false], entF1 (decBy I) fun day_1 => (impl_isDay day_1).map fun r => (B (r), [])⟩
theorem impl_isDay_F {day_1 : Int} {r : Bool} (h : impl_isDay day_1 = some r) : impl_isDay_ent.F [I (day_1)] = some (B (r), []) := by
  have e : impl_isDay_ent.F [I (day_1)] = (impl_isDay day_1).map fun r => (B (r), []) := by
    simp only [impl_isDay_ent, entF1, decS, dec_ok I_inj, Option.bind_some]
  refine Eq.trans ?_ ((congrArg (Option.map fun r => ((B (r) : V), ([] : List V))) h))
  exact e
theorem impl_isDay_good {G : Go.Ln.Ground} (g55 : Good Tryd.prog G 55 impl_within_ent) : Good Tryd.prog G 91 impl_isDay_ent := by
  refine good_of_run (E := impl_isDay_E) (fnOf_good (by
    intro p hp
    simp only [List.mem_cons, List.not_mem_nil, or_false] at hp
    rcases hp with rfl
    · exact g55)) agree_mk (Checked.mixed Tryd.checked) Tryd.func91 (c := impl_isDay_c) (n := 1) ⟨rfl, rfl, by decide⟩ ?_
  intro vs r os h
  obtain ⟨v0, day_1, rfl, q0, h9⟩ := entI1 h
  obtain rfl := dec_of q0
  obtain ⟨r1, hr1, he⟩ := Option.map_eq_some_iff.1 h9
  cases he
  exact ⟨rfl, impl_isDay_run day_1 r1 hr1⟩
noncomputable def xCountString_ent : Ent := ⟨[false, false], entF2 (decBy str) (decBy (V.int .u8)) fun s c => some (I (((Lib.countByte s c.toNat.toUInt8 : Nat) : Int)), [])⟩
theorem xCountString_F {s : Str} {c r : Int} (h : xCountString s c = some r) : xCountString_ent.F [str s, .int .u8 c] = some (I r, []) := by
  cases h
  simp only [xCountString_ent, entF2, dec_ok str_inj, dec_ok u8_inj, Option.bind_some]
theorem xCountString_n : Extern.findNext Tryd.f147 = none := by kernel_rfl
theorem xCountString_x : Extern.find Tryd.f147 = some Extern.BytealgCount.count := by kernel_rfl
theorem xCountString_good {G : Go.Ln.Ground} : Good Tryd.prog G 147 xCountString_ent := good_sc (g := fun s c => ((Lib.countByte s c.toNat.toUInt8 : Nat) : Int)) Tryd.func147 rfl (by decide) xCountString_n xCountString_x fun s c w => Lib.run_countString s c w
noncomputable def xIndexByteString_ent : Ent := ⟨[false, false], entF2 (decBy str) (decBy (V.int .u8)) fun s c => some (I (Lib.indexByte s c.toNat.toUInt8), [])⟩
theorem xIndexByteString_F {s : Str} {c r : Int} (h : xIndexByteString s c = some r) : xIndexByteString_ent.F [str s, .int .u8 c] = some (I r, []) := by
  cases h
  simp only [xIndexByteString_ent, entF2, dec_ok str_inj, dec_ok u8_inj, Option.bind_some]
theorem xIndexByteString_n : Extern.findNext Tryd.f162 = none := by kernel_rfl
theorem xIndexByteString_x : Extern.find Tryd.f162 = some Extern.BytealgIndexByte.indexByte := by kernel_rfl
theorem xIndexByteString_good {G : Go.Ln.Ground} : Good Tryd.prog G 162 xIndexByteString_ent := good_sc (g := fun s c => Lib.indexByte s c.toNat.toUInt8) Tryd.func162 rfl (by decide) xIndexByteString_n xIndexByteString_x fun s c w => Lib.run_indexByteString s c w
noncomputable def internal_stringslite_IndexByte_c : Code := bodyOf Tryd.f154
noncomputable def internal_stringslite_IndexByte_E : Env := mkE Tryd.prog [(162, xIndexByteString_ent)]
def internal_stringslite_IndexByte_Q (s_1 : Str) (c_2 : Int) (r : Int) (st : St) : Prop := finish internal_stringslite_IndexByte_E Tryd.f154 [false, false] (enter Tryd.f154 [str (s_1), .int .u8 (c_2)]).1 st = some (I (r), [])
theorem internal_stringslite_IndexByte_run (s_1 : Str) (c_2 : Int) (r : Int) (h : internal_stringslite_IndexByte s_1 c_2 = some r) : Run internal_stringslite_IndexByte_E 0 (internal_stringslite_IndexByte_Q s_1 c_2 r) [.code internal_stringslite_IndexByte_c] (enter Tryd.f154 [str (s_1), .int .u8 (c_2)]).2 := by
  refine run_at (enter_eq (ys := [str (s_1), .int .u8 (c_2)]) (R := []) (n := 8) (l := [(0, str (s_1)), (1, .int .u8 (c_2))]) (nx := 1) rfl rfl rfl) ?_
  unfold internal_stringslite_IndexByte at h
  refine s_seq rfl ?_
  refine s_reg rfl ?_
  refine o 17 (I (0)) rfl rfl (e_assign rfl) ?_
  refine s_ops ?_
  refine s_seq rfl ?_
  refine s_reg rfl ?_
  refine o 33 (str (s_1)) rfl rfl (e_move rfl) ?_
  refine o 49 (.int .u8 (c_2)) rfl rfl (e_move rfl) ?_
  obtain ⟨r3, hr3, h⟩ := bS h
  refine o 65 (I (r3)) rfl rfl (e_callV rfl rfl (call_q rfl rfl rfl (avS (shP rfl) (avS (shP rfl) (avN))) (xIndexByteString_F hr3) rfl rfl rfl)) ?_
  refine o 81 (I (r3)) rfl rfl (e_assign rfl) ?_
  refine s_ops ?_
  obtain rfl := Option.some.inj h
  exact s_ret rfl (fin (vs := [I (r3)]) rfl (absE (absorb_plain rfl) (absEN)) rfl rfl)
noncomputable def internal_stringslite_IndexByte_ent : Ent := ⟨[false, false], entF2 (decBy str) (decBy (V.int .u8)) fun s_1 c_2 => (internal_stringslite_IndexByte s_1 c_2).map fun r => (I (r), [])⟩
theorem internal_stringslite_IndexByte_F {s_1 : Str} {c_2 : Int} {r : Int} (h : internal_stringslite_IndexByte s_1 c_2 = some r) : internal_stringslite_IndexByte_ent.F [str (s_1), .int .u8 (c_2)] = some (I (r), []) := by
  have e : internal_stringslite_IndexByte_ent.F [str (s_1), .int .u8 (c_2)] = (internal_stringslite_IndexByte s_1 c_2).map fun r => (I (r), []) := by
    simp only [internal_stringslite_IndexByte_ent, entF2, decS, dec_ok str_inj, dec_ok (vint_inj (k := .u8)), Option.bind_some]
  refine Eq.trans ?_ ((congrArg (Option.map fun r => ((I (r) : V), ([] : List V))) h))
  exact e
theorem internal_stringslite_IndexByte_good {G : Go.Ln.Ground} (g162 : Good Tryd.prog G 162 xIndexByteString_ent) : Good Tryd.prog G 154 internal_stringslite_IndexByte_ent := by
  refine good_of_run (E := internal_stringslite_IndexByte_E) (fnOf_good (by
    intro p hp
    simp only [List.mem_cons, List.not_mem_nil, or_false] at hp
    rcases hp with rfl
    · exact g162)) agree_mk (Checked.mixed Tryd.checked) Tryd.func154 (c := internal_stringslite_IndexByte_c) (n := 2) ⟨rfl, rfl, by decide⟩ ?_
  intro vs r os h
  obtain ⟨v0, v1, s_1, c_2, rfl, q0, q1, h9⟩ := entI2 h
  obtain rfl := dec_of q0
  obtain rfl := dec_of q1
  obtain ⟨r1, hr1, he⟩ := Option.map_eq_some_iff.1 h9
  cases he
  exact ⟨rfl, internal_stringslite_IndexByte_run s_1 c_2 r1 hr1⟩
noncomputable def internal_stringslite_Index_c : Code := bodyOf Tryd.f148
noncomputable def internal_stringslite_Index_E : Env := mkE Tryd.prog [(154, internal_stringslite_IndexByte_ent)]
def internal_stringslite_Index_Q (s_1 : Str) (substr_2 : Str) (r : Int) (st : St) : Prop := finish internal_stringslite_Index_E Tryd.f148 [false, false] (enter Tryd.f148 [str (s_1), str (substr_2)]).1 st = some (I (r), [])
theorem internal_stringslite_Index_run (s_1 : Str) (substr_2 : Str) (r : Int) (h : internal_stringslite_Index s_1 substr_2 = some r) : Run internal_stringslite_Index_E 0 (internal_stringslite_Index_Q s_1 substr_2 r) [.code internal_stringslite_Index_c] (enter Tryd.f148 [str (s_1), str (substr_2)]).2 := by
  refine run_at (enter_eq (ys := [str (s_1), str (substr_2)]) (R := []) (n := 143) (l := [(0, str (s_1)), (1, str (substr_2))]) (nx := 1) rfl rfl rfl) ?_
  unfold internal_stringslite_Index at h
  refine s_seq rfl ?_
  refine s_reg rfl ?_
  refine o 17 (I (0)) rfl rfl (e_assign rfl) ?_
  refine s_ops ?_
  refine s_seq rfl ?_
  refine s_reg rfl ?_
  refine o 33 (str (substr_2)) rfl rfl (e_move rfl) ?_
  refine o 49 (I ((len substr_2))) rfl rfl (e_len rfl rfl rfl (l_str rfl)) ?_
  refine o 65 (I ((len substr_2))) rfl rfl (e_assign rfl) ?_
  refine s_ops ?_
  refine s_seq rfl ?_
  refine s_block rfl ?_
  refine s_seq rfl ?_
  refine s_reg rfl ?_
  refine o 81 (I ((len substr_2))) rfl rfl (e_move rfl) ?_
  refine o 97 (B (((len substr_2) == 0))) rfl rfl (e_bin rfl rfl rfl) ?_
  refine o 113 (B (((len substr_2) == 0))) rfl rfl (e_move rfl) ?_
  obtain ⟨u3, hu3, h⟩ := lJ h
  have j3 : Run internal_stringslite_Index_E 0 (internal_stringslite_Index_Q s_1 substr_2 r) (.code (cR (cL (cL (cR (cR internal_stringslite_Index_c))))) :: .blk 0 :: .code (cR (cR (cR internal_stringslite_Index_c))) :: []) ⟨mkTm .dead 143 [(0, str (s_1)), (1, str (substr_2)), (5, I ((len substr_2))), (16, B (u3))], mkS (rtL [] 1), 1⟩ := by
    refine s_cond rfl rfl (fun hb => ?_) (fun hb => ?_)
    · replace h := cT hb h
      refine s_seq rfl ?_
      refine s_reg rfl ?_
      refine o 17 (I (0)) rfl rfl (e_assign rfl) ?_
      refine s_ops ?_
      obtain rfl := Option.some.inj h
      exact s_ret rfl (fin (vs := [I (0)]) rfl (absE (absorb_plain rfl) (absEN)) rfl rfl)
    · replace h := cF hb h
      refine s_seq rfl ?_
      refine s_reg rfl ?_
      refine o 17 (I ((len substr_2))) rfl rfl (e_move rfl) ?_
      refine o 33 (B (((len substr_2) == 1))) rfl rfl (e_bin rfl rfl rfl) ?_
      refine o 49 (B (((len substr_2) == 1))) rfl rfl (e_assign rfl) ?_
      refine s_ops ?_
      refine s_cond rfl rfl (fun hb => ?_) (fun hb => ?_)
      · replace h := cT hb h
        refine s_seq rfl ?_
        refine s_reg rfl ?_
        refine o 65 (str (s_1)) rfl rfl (e_move rfl) ?_
        refine o 81 (str (substr_2)) rfl rfl (e_move rfl) ?_
        obtain ⟨c4, hc4, h⟩ := bS h
        refine o 97 (.int .u8 ((c4.toNat : Int))) rfl rfl (e_index rfl rfl (i_str rfl rfl hc4)) ?_
        obtain ⟨r5, hr5, h⟩ := bS h
        refine o 113 (I (r5)) rfl rfl (e_callV rfl rfl (call_q rfl rfl rfl (avS (shP rfl) (avS (shP rfl) (avN))) (internal_stringslite_IndexByte_F hr5) rfl rfl rfl)) ?_
        refine o 129 (I (r5)) rfl rfl (e_assign rfl) ?_
        refine s_ops ?_
        obtain rfl := Option.some.inj h
        exact s_ret rfl (fin (vs := [I (r5)]) rfl (absE (absorb_plain rfl) (absEN)) rfl rfl)
      · replace h := cF hb h
        refine s_seq rfl ?_
        refine s_reg rfl ?_
        refine o 65 (I ((len substr_2))) rfl rfl (e_move rfl) ?_
        refine o 81 (str (s_1)) rfl rfl (e_move rfl) ?_
        refine o 97 (I ((len s_1))) rfl rfl (e_len rfl rfl rfl (l_str rfl)) ?_
        refine o 113 (B ((decide ((len substr_2) ≥ (len s_1))))) rfl rfl (e_bin rfl rfl rfl) ?_
        refine o 129 (B ((decide ((len substr_2) ≥ (len s_1))))) rfl rfl (e_assign rfl) ?_
        refine s_ops ?_
        refine s_cond rfl rfl (fun hb => ?_) (fun hb => ?_)
        · replace h := cT hb h
          refine s_seq rfl ?_
          refine s_reg rfl ?_
          refine o 145 (I ((-1))) rfl rfl (e_assign rfl) ?_
          refine s_ops ?_
          obtain rfl := Option.some.inj h
          exact s_ret rfl (fin (vs := [I ((-1))]) rfl (absE (absorb_plain rfl) (absEN)) rfl rfl)
        · replace h := cF hb h
          cases h
  replace h := hu3
  clear hu3
  refine r_split (b := ((len substr_2) == 0)) 19 rfl (fun hb => ?_) (fun hb => ?_)
  · replace h := cTp hb h
    refine os 129 rfl rfl rfl rfl ?_
    refine os 145 rfl rfl rfl rfl ?_
    refine os 161 rfl rfl rfl rfl ?_
    refine o 177 (B (true)) rfl rfl (e_pickT rfl rfl) ?_
    refine o 193 (B (true)) rfl rfl (e_assign rfl) ?_
    refine s_ops ?_
    refine run_forget [0, 1, 5, 16] [] [] rfl rfl rfl rfl ?_
    subst h
    exact j3
  · replace h := cFp hb h
    refine og 129 (str (substr_2)) rfl rfl rfl rfl (e_move rfl) ?_
    refine og 145 (str (s_1)) rfl rfl rfl rfl (e_move rfl) ?_
    refine og 161 (B ((substr_2 == s_1))) rfl rfl rfl rfl (e_bin rfl rfl b_streq) ?_
    refine o 177 (B ((substr_2 == s_1))) rfl rfl (e_pickF rfl rfl) ?_
    refine o 193 (B ((substr_2 == s_1))) rfl rfl (e_assign rfl) ?_
    refine s_ops ?_
    refine run_forget [0, 1, 5, 16] [] [] rfl rfl rfl rfl ?_
    subst h
    exact j3
noncomputable def internal_stringslite_Index_ent : Ent := ⟨[false, false], entF2 (decBy str) (decBy str) fun s_1 substr_2 => (internal_stringslite_Index s_1 substr_2).map fun r => (I (r), [])⟩
theorem internal_stringslite_Index_F {s_1 : Str} {substr_2 : Str} {r : Int} (h : internal_stringslite_Index s_1 substr_2 = some r) : internal_stringslite_Index_ent.F [str (s_1), str (substr_2)] = some (I (r), []) := by
  have e : internal_stringslite_Index_ent.F [str (s_1), str (substr_2)] = (internal_stringslite_Index s_1 substr_2).map fun r => (I (r), []) := by
    simp only [internal_stringslite_Index_ent, entF2, decS, dec_ok str_inj, dec_ok str_inj, Option.bind_some]
  refine Eq.trans ?_ ((congrArg (Option.map fun r => ((I (r) : V), ([] : List V))) h))
  exact e
theorem internal_stringslite_Index_good {G : Go.Ln.Ground} (g154 : Good Tryd.prog G 154 internal_stringslite_IndexByte_ent) : Good Tryd.prog G 148 internal_stringslite_Index_ent := by
  refine good_of_run (E := internal_stringslite_Index_E) (fnOf_good (by
    intro p hp
    simp only [List.mem_cons, List.not_mem_nil, or_false] at hp
    rcases hp with rfl
    · exact g154)) agree_mk (Checked.mixed Tryd.checked) Tryd.func148 (c := internal_stringslite_Index_c) (n := 2) ⟨rfl, rfl, by decide⟩ ?_
  intro vs r os h
  obtain ⟨v0, v1, s_1, substr_2, rfl, q0, q1, h9⟩ := entI2 h
  obtain rfl := dec_of q0
  obtain rfl := dec_of q1
  obtain ⟨r1, hr1, he⟩ := Option.map_eq_some_iff.1 h9
  cases he
  exact ⟨rfl, internal_stringslite_Index_run s_1 substr_2 r1 hr1⟩
noncomputable def strings_Index_c : Code := bodyOf Tryd.f142
noncomputable def strings_Index_E : Env := mkE Tryd.prog [(148, internal_stringslite_Index_ent)]
def strings_Index_Q (s_1 : Str) (substr_2 : Str) (r : Int) (st : St) : Prop := finish strings_Index_E Tryd.f142 [false, false] (enter Tryd.f142 [str (s_1), str (substr_2)]).1 st = some (I (r), [])
theorem strings_Index_run (s_1 : Str) (substr_2 : Str) (r : Int) (h : strings_Index s_1 substr_2 = some r) : Run strings_Index_E 0 (strings_Index_Q s_1 substr_2 r) [.code strings_Index_c] (enter Tryd.f142 [str (s_1), str (substr_2)]).2 := by
  refine run_at (enter_eq (ys := [str (s_1), str (substr_2)]) (R := []) (n := 8) (l := [(0, str (s_1)), (1, str (substr_2))]) (nx := 1) rfl rfl rfl) ?_
  unfold strings_Index at h
  refine s_seq rfl ?_
  refine s_reg rfl ?_
  refine o 17 (I (0)) rfl rfl (e_assign rfl) ?_
  refine s_ops ?_
  refine s_seq rfl ?_
  refine s_reg rfl ?_
  refine o 33 (str (s_1)) rfl rfl (e_move rfl) ?_
  refine o 49 (str (substr_2)) rfl rfl (e_move rfl) ?_
  obtain ⟨r3, hr3, h⟩ := bS h
  refine o 65 (I (r3)) rfl rfl (e_callV rfl rfl (call_q rfl rfl rfl (avS (shP rfl) (avS (shP rfl) (avN))) (internal_stringslite_Index_F hr3) rfl rfl rfl)) ?_
  refine o 81 (I (r3)) rfl rfl (e_assign rfl) ?_
  refine s_ops ?_
  obtain rfl := Option.some.inj h
  exact s_ret rfl (fin (vs := [I (r3)]) rfl (absE (absorb_plain rfl) (absEN)) rfl rfl)
noncomputable def strings_Index_ent : Ent := ⟨[false, false], entF2 (decBy str) (decBy str) fun s_1 substr_2 => (strings_Index s_1 substr_2).map fun r => (I (r), [])⟩
theorem strings_Index_F {s_1 : Str} {substr_2 : Str} {r : Int} (h : strings_Index s_1 substr_2 = some r) : strings_Index_ent.F [str (s_1), str (substr_2)] = some (I (r), []) := by
  have e : strings_Index_ent.F [str (s_1), str (substr_2)] = (strings_Index s_1 substr_2).map fun r => (I (r), []) := by
    simp only [strings_Index_ent, entF2, decS, dec_ok str_inj, dec_ok str_inj, Option.bind_some]
  refine Eq.trans ?_ ((congrArg (Option.map fun r => ((I (r) : V), ([] : List V))) h))
  exact e
theorem strings_Index_good {G : Go.Ln.Ground} (g148 : Good Tryd.prog G 148 internal_stringslite_Index_ent) : Good Tryd.prog G 142 strings_Index_ent := by
  refine good_of_run (E := strings_Index_E) (fnOf_good (by
    intro p hp
    simp only [List.mem_cons, List.not_mem_nil, or_false] at hp
    rcases hp with rfl
    · exact g148)) agree_mk (Checked.mixed Tryd.checked) Tryd.func142 (c := strings_Index_c) (n := 2) ⟨rfl, rfl, by decide⟩ ?_
  intro vs r os h
  obtain ⟨v0, v1, s_1, substr_2, rfl, q0, q1, h9⟩ := entI2 h
  obtain rfl := dec_of q0
  obtain rfl := dec_of q1
  obtain ⟨r1, hr1, he⟩ := Option.map_eq_some_iff.1 h9
  cases he
  exact ⟨rfl, strings_Index_run s_1 substr_2 r1 hr1⟩
noncomputable def strings_Count_c : Code := bodyOf Tryd.f141
noncomputable def strings_Count_E : Env := mkE Tryd.prog [(147, xCountString_ent), (142, strings_Index_ent)]
def strings_Count_Q (s_1 : Str) (substr_2 : Str) (r : Int) (st : St) : Prop := finish strings_Count_E Tryd.f141 [false, false] (enter Tryd.f141 [str (s_1), str (substr_2)]).1 st = some (I (r), [])
theorem strings_Count_la_run (s_1 : Str) (substr_2 : Str)  {Q : St → Prop} {K : List It} (hK : noD K = true) {x5 : Str × Int} {y : Int ⊕ Unit} (h : strings_Count_la s_1 substr_2 x5 = some y) : (∀ r', y = .inl r' → ∀ st, strings_Count_Q s_1 substr_2 r' st → Q st) → (∀ u : Unit, y = .inr u → Run strings_Count_E 0 Q K ⟨mkTm .dead 34 [], mkS (rtL [] 1), 1⟩) → Run strings_Count_E 0 Q (.code (cL (cL (cR (cR (cR (cR strings_Count_c)))))) :: .lp (cL (cL (cR (cR (cR (cR strings_Count_c)))))) :: .blk 0 :: K) ⟨mkTm .dead 34 [(0, str (x5.1)), (1, str (substr_2)), (5, I (x5.2))], mkS (rtL [] 1), 1⟩ := by
  refine fix_ind (P := fun (x5 : Str × Int) (y : Int ⊕ Unit) => (∀ r', y = .inl r' → ∀ st, strings_Count_Q s_1 substr_2 r' st → Q st) → (∀ u : Unit, y = .inr u → Run strings_Count_E 0 Q K ⟨mkTm .dead 34 [], mkS (rtL [] 1), 1⟩) → Run strings_Count_E 0 Q (.code (cL (cL (cR (cR (cR (cR strings_Count_c)))))) :: .lp (cL (cL (cR (cR (cR (cR strings_Count_c)))))) :: .blk 0 :: K) ⟨mkTm .dead 34 [(0, str (x5.1)), (1, str (substr_2)), (5, I (x5.2))], mkS (rtL [] 1), 1⟩) (strings_Count_la_fin s_1 substr_2) ?_ h
  clear h y x5
  intro self ih x5 y h hr hn
  unfold strings_Count_la_F at h
  refine s_block rfl ?_
  refine s_seq rfl ?_
  refine s_reg rfl ?_
  refine o 17 (str (x5.1)) rfl rfl (e_move rfl) ?_
  refine o 33 (str (substr_2)) rfl rfl (e_move rfl) ?_
  obtain ⟨r6, hr6, h⟩ := bS h
  refine o 49 (I (r6)) rfl rfl (e_callV rfl rfl (call_q rfl rfl rfl (avS (shP rfl) (avS (shP rfl) (avN))) (strings_Index_F hr6) rfl rfl rfl)) ?_
  refine o 65 (I (r6)) rfl rfl (e_assign rfl) ?_
  refine s_ops ?_
  refine s_seq rfl ?_
  refine s_seq rfl ?_
  refine s_reg rfl ?_
  refine o 81 (I (r6)) rfl rfl (e_move rfl) ?_
  refine o 97 (B ((r6 == (-1)))) rfl rfl (e_bin rfl rfl rfl) ?_
  refine s_ops ?_
  refine s_cond rfl rfl (fun hb => ?_) (fun hb => ?_)
  · replace h := cT hb h
    refine s_seq rfl ?_
    refine s_reg rfl ?_
    refine o 113 (I (x5.2)) rfl rfl (e_move rfl) ?_
    refine o 129 (I (x5.2)) rfl rfl (e_assign rfl) ?_
    refine s_ops ?_
    exact s_ret rfl (hr _ (Option.some.inj h).symm _ (fin (vs := [I (x5.2)]) rfl (absE (absorb_plain rfl) (absEN)) rfl rfl))
  · replace h := cF hb h
    refine s_skip rfl ?_
    refine s_seq rfl ?_
    refine s_reg rfl ?_
    refine o 113 (I (x5.2)) rfl rfl (e_move rfl) ?_
    refine o 129 (I ((w64 (x5.2 + 1)))) rfl rfl (e_bin rfl rfl rfl) ?_
    refine o 145 (I ((w64 (x5.2 + 1)))) rfl rfl (e_assign rfl) ?_
    refine s_ops ?_
    refine s_reg rfl ?_
    refine o 161 (str (x5.1)) rfl rfl (e_move rfl) ?_
    refine o 177 (I (r6)) rfl rfl (e_move rfl) ?_
    refine o 193 (str (substr_2)) rfl rfl (e_move rfl) ?_
    refine o 209 (I ((len substr_2))) rfl rfl (e_len rfl rfl rfl (l_str rfl)) ?_
    refine o 225 (I ((w64 (r6 + (len substr_2))))) rfl rfl (e_bin rfl rfl rfl) ?_
    obtain ⟨s7, hs7, h⟩ := bS h
    refine o 241 (str (s7)) rfl rfl (e_slice rfl rfl rfl rfl (sl_str rfl rfl rfl hs7)) ?_
    refine o 257 (str (s7)) rfl rfl (e_assign rfl) ?_
    refine s_ops ?_
    refine s_blk ?_
    refine s_lp ?_
    refine run_forget [0, 1, 5] [] [] rfl rfl rfl rfl ?_
    exact ih _ _ h hr hn
theorem strings_Count_run (s_1 : Str) (substr_2 : Str) (r : Int) (h : strings_Count s_1 substr_2 = some r) : Run strings_Count_E 0 (strings_Count_Q s_1 substr_2 r) [.code strings_Count_c] (enter Tryd.f141 [str (s_1), str (substr_2)]).2 := by
  refine run_at (enter_eq (ys := [str (s_1), str (substr_2)]) (R := []) (n := 34) (l := [(0, str (s_1)), (1, str (substr_2))]) (nx := 1) rfl rfl rfl) ?_
  unfold strings_Count at h
  refine s_seq rfl ?_
  refine s_reg rfl ?_
  refine o 17 (I (0)) rfl rfl (e_assign rfl) ?_
  refine s_ops ?_
  refine s_seq rfl ?_
  refine s_seq rfl ?_
  refine s_reg rfl ?_
  refine o 33 (str (substr_2)) rfl rfl (e_move rfl) ?_
  refine o 49 (I ((len substr_2))) rfl rfl (e_len rfl rfl rfl (l_str rfl)) ?_
  refine o 65 (B (((len substr_2) == 0))) rfl rfl (e_bin rfl rfl rfl) ?_
  refine s_ops ?_
  refine s_cond rfl rfl (fun hb => ?_) (fun hb => ?_)
  · replace h := cT hb h
    cases h
  · replace h := cF hb h
    refine s_skip rfl ?_
    refine s_seq rfl ?_
    refine s_seq rfl ?_
    refine s_reg rfl ?_
    refine o 81 (str (substr_2)) rfl rfl (e_move rfl) ?_
    refine o 97 (I ((len substr_2))) rfl rfl (e_len rfl rfl rfl (l_str rfl)) ?_
    refine o 113 (B (((len substr_2) == 1))) rfl rfl (e_bin rfl rfl rfl) ?_
    refine s_ops ?_
    refine s_cond rfl rfl (fun hb => ?_) (fun hb => ?_)
    · replace h := cT hb h
      refine s_seq rfl ?_
      refine s_reg rfl ?_
      refine o 129 (str (s_1)) rfl rfl (e_move rfl) ?_
      refine o 145 (str (substr_2)) rfl rfl (e_move rfl) ?_
      obtain ⟨c3, hc3, h⟩ := bS h
      refine o 161 (.int .u8 ((c3.toNat : Int))) rfl rfl (e_index rfl rfl (i_str rfl rfl hc3)) ?_
      obtain ⟨r4, hr4, h⟩ := bS h
      refine o 177 (I (r4)) rfl rfl (e_callV rfl rfl (call_q rfl rfl rfl (avS (shP rfl) (avS (shP rfl) (avN))) (xCountString_F hr4) rfl rfl rfl)) ?_
      refine o 193 (I (r4)) rfl rfl (e_assign rfl) ?_
      refine s_ops ?_
      obtain rfl := Option.some.inj h
      exact s_ret rfl (fin (vs := [I (r4)]) rfl (absE (absorb_plain rfl) (absEN)) rfl rfl)
    · replace h := cF hb h
      refine s_skip rfl ?_
      refine s_seq rfl ?_
      refine s_reg rfl ?_
      refine o 129 (I (0)) rfl rfl (e_assign rfl) ?_
      refine s_ops ?_
      refine s_block rfl ?_
      obtain ⟨y8, hy8, hy81, hy82⟩ := bJ h
      refine s_loop rfl ?_
      refine run_forget [0, 1, 5] [] [] rfl rfl rfl rfl ?_
      refine strings_Count_la_run s_1 substr_2 rfl hy8 (fun r' e st hq => by rw [hy81 r' e] at hq; exact hq) (fun u8 hu => ?_)
      replace h := hy82 u8 hu
      cases h
noncomputable def strings_Count_ent : Ent := ⟨[false, false], entF2 (decBy str) (decBy str) fun s_1 substr_2 => (strings_Count s_1 substr_2).map fun r => (I (r), [])⟩
theorem strings_Count_F {s_1 : Str} {substr_2 : Str} {r : Int} (h : strings_Count s_1 substr_2 = some r) : strings_Count_ent.F [str (s_1), str (substr_2)] = some (I (r), []) := by
  have e : strings_Count_ent.F [str (s_1), str (substr_2)] = (strings_Count s_1 substr_2).map fun r => (I (r), []) := by
    simp only [strings_Count_ent, entF2, decS, dec_ok str_inj, dec_ok str_inj, Option.bind_some]
  refine Eq.trans ?_ ((congrArg (Option.map fun r => ((I (r) : V), ([] : List V))) h))
  exact e
theorem strings_Count_good {G : Go.Ln.Ground} (g147 : Good Tryd.prog G 147 xCountString_ent) (g142 : Good Tryd.prog G 142 strings_Index_ent) : Good Tryd.prog G 141 strings_Count_ent := by
  refine good_of_run (E := strings_Count_E) (fnOf_good (by
    intro p hp
    simp only [List.mem_cons, List.not_mem_nil, or_false] at hp
    rcases hp with rfl | rfl
    · exact g147
    · exact g142)) agree_mk (Checked.mixed Tryd.checked) Tryd.func141 (c := strings_Count_c) (n := 2) ⟨rfl, rfl, by decide⟩ ?_
  intro vs r os h
  obtain ⟨v0, v1, s_1, substr_2, rfl, q0, q1, h9⟩ := entI2 h
  obtain rfl := dec_of q0
  obtain rfl := dec_of q1
  obtain ⟨r1, hr1, he⟩ := Option.map_eq_some_iff.1 h9
  cases he
  exact ⟨rfl, strings_Count_run s_1 substr_2 r1 hr1⟩
noncomputable def strings_genSplit_c : Code := bodyOf Tryd.f130
noncomputable def strings_genSplit_E : Env := mkE Tryd.prog [(142, strings_Index_ent), (141, strings_Count_ent)]
def strings_genSplit_Q (s_1 : Str) (sep_2 : Str) (sepSave_3 : Int) (n_4 : Int) (r : (List Str)) (st : St) : Prop := finish strings_genSplit_E Tryd.f130 [false, false, false, false] (enter Tryd.f130 [str (s_1), str (sep_2), I (sepSave_3), I (n_4)]).1 st = some (.usl 1 ((r).map str), [])
theorem strings_genSplit_la_run (s_1 : Str) (sep_2 : Str) (sepSave_3 : Int) (n_4 : Int) (u5 : Int) {Q : St → Prop} {K : List It} (hK : noD K = true) {x7 : Str × Int × (List Str)} {y : ((List Str)) ⊕ (Str × Int × (List Str))} (h : strings_genSplit_la s_1 sep_2 sepSave_3 n_4 u5 x7 = some y) : (∀ r', y = .inl r' → ∀ st, strings_genSplit_Q s_1 sep_2 sepSave_3 n_4 r' st → Q st) → (∀ u : Str × Int × (List Str), y = .inr u → Run strings_genSplit_E 0 Q K ⟨mkTm .dead 66 [(0, str (u.1)), (9, .hs 1 0 [] 1 0 (u.2.2).length), (10, I (u.2.1))], mkS (rtL [⟨0, 1, (u.2.2).map str⟩] 1), 2⟩) → Run strings_genSplit_E 0 Q (.code (cL (cL (cL (cR (cR (cR (cR (cR (cR (cR (cR strings_genSplit_c))))))))))) :: .lp (cL (cL (cL (cR (cR (cR (cR (cR (cR (cR (cR strings_genSplit_c))))))))))) :: .blk 0 :: K) ⟨mkTm .dead 66 [(0, str (x7.1)), (1, str (sep_2)), (2, I (sepSave_3)), (3, I ((w64 ((if (w64 ((len s_1) + 1)) < u5 then (w64 ((len s_1) + 1)) else u5) - 1)))), (9, .hs 1 0 [] 1 0 (x7.2.2).length), (10, I (x7.2.1))], mkS (rtL [⟨0, 1, (x7.2.2).map str⟩] 1), 2⟩ := by
  refine fix_ind (P := fun (x7 : Str × Int × (List Str)) (y : ((List Str)) ⊕ (Str × Int × (List Str))) => (∀ r', y = .inl r' → ∀ st, strings_genSplit_Q s_1 sep_2 sepSave_3 n_4 r' st → Q st) → (∀ u : Str × Int × (List Str), y = .inr u → Run strings_genSplit_E 0 Q K ⟨mkTm .dead 66 [(0, str (u.1)), (9, .hs 1 0 [] 1 0 (u.2.2).length), (10, I (u.2.1))], mkS (rtL [⟨0, 1, (u.2.2).map str⟩] 1), 2⟩) → Run strings_genSplit_E 0 Q (.code (cL (cL (cL (cR (cR (cR (cR (cR (cR (cR (cR strings_genSplit_c))))))))))) :: .lp (cL (cL (cL (cR (cR (cR (cR (cR (cR (cR (cR strings_genSplit_c))))))))))) :: .blk 0 :: K) ⟨mkTm .dead 66 [(0, str (x7.1)), (1, str (sep_2)), (2, I (sepSave_3)), (3, I ((w64 ((if (w64 ((len s_1) + 1)) < u5 then (w64 ((len s_1) + 1)) else u5) - 1)))), (9, .hs 1 0 [] 1 0 (x7.2.2).length), (10, I (x7.2.1))], mkS (rtL [⟨0, 1, (x7.2.2).map str⟩] 1), 2⟩) (strings_genSplit_la_fin s_1 sep_2 sepSave_3 n_4 u5) ?_ h
  clear h y x7
  intro self ih x7 y h hr hn
  unfold strings_genSplit_la_F at h
  refine s_seq rfl ?_
  refine s_seq rfl ?_
  refine s_reg rfl ?_
  refine o 18 (I (x7.2.1)) rfl rfl (e_move rfl) ?_
  refine o 34 (I ((w64 ((if (w64 ((len s_1) + 1)) < u5 then (w64 ((len s_1) + 1)) else u5) - 1)))) rfl rfl (e_move rfl) ?_
  refine o 50 (B ((decide (x7.2.1 < (w64 ((if (w64 ((len s_1) + 1)) < u5 then (w64 ((len s_1) + 1)) else u5) - 1)))))) rfl rfl (e_bin rfl rfl rfl) ?_
  refine s_ops ?_
  refine s_cond rfl rfl (fun hb => ?_) (fun hb => ?_)
  · replace h := cT hb h
    refine s_skip rfl ?_
    refine s_block rfl ?_
    refine s_seq rfl ?_
    refine s_reg rfl ?_
    refine o 66 (str (x7.1)) rfl rfl (e_move rfl) ?_
    refine o 82 (str (sep_2)) rfl rfl (e_move rfl) ?_
    obtain ⟨r8, hr8, h⟩ := bS h
    refine o 98 (I (r8)) rfl rfl (e_callV rfl rfl (call_q rfl rfl rfl (avS (shP rfl) (avS (shP rfl) (avN))) (strings_Index_F hr8) rfl rfl rfl)) ?_
    refine o 114 (I (r8)) rfl rfl (e_assign rfl) ?_
    refine s_ops ?_
    refine s_seq rfl ?_
    refine s_seq rfl ?_
    refine s_reg rfl ?_
    refine o 130 (I (r8)) rfl rfl (e_move rfl) ?_
    refine o 146 (B ((decide (r8 < 0)))) rfl rfl (e_bin rfl rfl rfl) ?_
    refine s_ops ?_
    refine s_cond rfl rfl (fun hb => ?_) (fun hb => ?_)
    · replace h := cT hb h
      refine s_exit rfl rfl ?_
      refine run_forget [0, 9, 10] [1] [⟨0, 1, (x7.2.2).map str⟩] rfl rfl rfl hK ?_
      exact hn _ (Option.some.inj h).symm
    · replace h := cF hb h
      refine s_skip rfl ?_
      refine s_seq rfl ?_
      refine s_reg rfl ?_
      refine o 162 (.hs 1 0 [] 1 0 (x7.2.2).length) rfl rfl (e_move rfl) ?_
      refine o 178 (I (x7.2.1)) rfl rfl (e_move rfl) ?_
      refine o 194 (str (x7.1)) rfl rfl (e_move rfl) ?_
      refine o 210 (I (r8)) rfl rfl (e_move rfl) ?_
      refine o 226 (I (sepSave_3)) rfl rfl (e_move rfl) ?_
      refine o 242 (I ((w64 (r8 + sepSave_3)))) rfl rfl (e_bin rfl rfl rfl) ?_
      obtain ⟨s9, hs9, h⟩ := bS h
      refine o 258 (str (s9)) rfl rfl (e_slice rfl rfl rfl rfl (sl_str rfl rfl rfl hs9)) ?_
      obtain ⟨e10, he10, h⟩ := bS h
      refine o 274 (.hp 1 0 [] 1 (0 + Int.toNat (x7.2.1)) 0) rfl rfl (e_indexAddr rfl rfl rfl (ix_hs (xs := x7.2.2) rfl rfl rfl he10)) ?_
      refine o0 290 rfl rfl (e_st rfl rfl (st_at (path := []) (pl := true) (e' := str (s9)) (es2' := ((setI x7.2.2 x7.2.1 s9)).map str) rfl (absorb_plain rfl) rfl rfl rfl (ra_n) (get_map (f := str) (xs := x7.2.2) he10) rfl rfl rfl (set_map (f := str) (xs := x7.2.2) (y := s9)) (sr_n) 0 rfl)) ?_
      try rw [← len_setI (xs := x7.2.2) (i := x7.2.1) (y := s9)]
      refine s_ops ?_
      refine s_seq rfl ?_
      refine s_reg rfl ?_
      refine o 306 (str (x7.1)) rfl rfl (e_move rfl) ?_
      refine o 322 (I (r8)) rfl rfl (e_move rfl) ?_
      refine o 338 (str (sep_2)) rfl rfl (e_move rfl) ?_
      refine o 354 (I ((len sep_2))) rfl rfl (e_len rfl rfl rfl (l_str rfl)) ?_
      refine o 370 (I ((w64 (r8 + (len sep_2))))) rfl rfl (e_bin rfl rfl rfl) ?_
      obtain ⟨s11, hs11, h⟩ := bS h
      refine o 386 (str (s11)) rfl rfl (e_slice rfl rfl rfl rfl (sl_str rfl rfl rfl hs11)) ?_
      refine o 402 (str (s11)) rfl rfl (e_assign rfl) ?_
      refine s_ops ?_
      refine s_reg rfl ?_
      refine o 418 (I (x7.2.1)) rfl rfl (e_move rfl) ?_
      refine o 434 (I ((w64 (x7.2.1 + 1)))) rfl rfl (e_bin rfl rfl rfl) ?_
      refine o 450 (I ((w64 (x7.2.1 + 1)))) rfl rfl (e_assign rfl) ?_
      refine s_ops ?_
      refine s_blk ?_
      refine s_lp ?_
      refine run_forget [0, 1, 2, 3, 9, 10] [1] [⟨0, 1, ((setI x7.2.2 x7.2.1 s9)).map str⟩] rfl rfl rfl rfl ?_
      exact ih _ _ h hr hn
  · replace h := cF hb h
    refine s_exit rfl rfl ?_
    refine run_forget [0, 9, 10] [1] [⟨0, 1, (x7.2.2).map str⟩] rfl rfl rfl hK ?_
    exact hn _ (Option.some.inj h).symm
theorem strings_genSplit_run (s_1 : Str) (sep_2 : Str) (sepSave_3 : Int) (n_4 : Int) (r : (List Str)) (h : strings_genSplit s_1 sep_2 sepSave_3 n_4 = some r) : Run strings_genSplit_E 0 (strings_genSplit_Q s_1 sep_2 sepSave_3 n_4 r) [.code strings_genSplit_c] (enter Tryd.f130 [str (s_1), str (sep_2), I (sepSave_3), I (n_4)]).2 := by
  refine run_at (enter_eq (ys := [str (s_1), str (sep_2), I (sepSave_3), I (n_4)]) (R := []) (n := 66) (l := [(0, str (s_1)), (1, str (sep_2)), (2, I (sepSave_3)), (3, I (n_4))]) (nx := 1) rfl rfl rfl) ?_
  unfold strings_genSplit at h
  refine s_seq rfl ?_
  refine s_reg rfl ?_
  refine o 17 (.isl true []) rfl rfl (e_assign rfl) ?_
  refine s_ops ?_
  refine s_seq rfl ?_
  refine s_seq rfl ?_
  refine s_reg rfl ?_
  refine o 33 (I (n_4)) rfl rfl (e_move rfl) ?_
  refine o 49 (B ((n_4 == 0))) rfl rfl (e_bin rfl rfl rfl) ?_
  refine s_ops ?_
  refine s_cond rfl rfl (fun hb => ?_) (fun hb => ?_)
  · replace h := cT hb h
    cases h
  · replace h := cF hb h
    refine s_skip rfl ?_
    refine s_seq rfl ?_
    refine s_seq rfl ?_
    refine s_reg rfl ?_
    refine o 65 (str (sep_2)) rfl rfl (e_move rfl) ?_
    refine o 81 (B ((sep_2 == []))) rfl rfl (e_bin rfl rfl b_streq) ?_
    refine s_ops ?_
    refine s_cond rfl rfl (fun hb => ?_) (fun hb => ?_)
    · replace h := cT hb h
      cases h
    · replace h := cF hb h
      refine s_skip rfl ?_
      refine s_seq rfl ?_
      refine s_seq rfl ?_
      refine s_reg rfl ?_
      refine o 97 (I (n_4)) rfl rfl (e_move rfl) ?_
      refine o 113 (B ((decide (n_4 < 0)))) rfl rfl (e_bin rfl rfl rfl) ?_
      refine s_ops ?_
      obtain ⟨y5, hy5, hy51, hy52⟩ := bJ h
      have j5 : ∀ u5, y5 = .inr u5 → Run strings_genSplit_E 0 (strings_genSplit_Q s_1 sep_2 sepSave_3 n_4 r) (.code (cR (cR (cR (cR strings_genSplit_c)))) :: []) ⟨mkTm .dead 66 [(0, str (s_1)), (1, str (sep_2)), (2, I (sepSave_3)), (3, I (u5))], mkS (rtL [] 1), 1⟩ := by
        intro u5 hu
        replace h := hy52 u5 hu
        refine s_seq rfl ?_
        refine s_reg rfl ?_
        refine o 17 (I (u5)) rfl rfl (e_move rfl) ?_
        refine o 33 (str (s_1)) rfl rfl (e_move rfl) ?_
        refine o 49 (I ((len s_1))) rfl rfl (e_len rfl rfl rfl (l_str rfl)) ?_
        refine o 65 (I ((w64 ((len s_1) + 1)))) rfl rfl (e_bin rfl rfl rfl) ?_
        refine o 81 (I ((if (w64 ((len s_1) + 1)) < u5 then (w64 ((len s_1) + 1)) else u5))) rfl rfl (e_min rfl rfl) ?_
        refine o 97 (I ((if (w64 ((len s_1) + 1)) < u5 then (w64 ((len s_1) + 1)) else u5))) rfl rfl (e_assign rfl) ?_
        refine s_ops ?_
        refine s_seq rfl ?_
        refine s_reg rfl ?_
        refine o 113 (I ((if (w64 ((len s_1) + 1)) < u5 then (w64 ((len s_1) + 1)) else u5))) rfl rfl (e_move rfl) ?_
        obtain ⟨m6, hm6, h⟩ := bS h
        refine o 129 (.hs 113 0 [] 1 0 (m6).length) rfl rfl (e_makeSlice rfl rfl (ms_mk (f := str) rfl rfl rfl (by decide) hm6 rfl)) ?_
        refine o 145 (.hs 113 0 [] 1 0 (m6).length) rfl rfl (e_assign rfl) ?_
        refine s_ops ?_
        refine s_seq rfl ?_
        refine s_reg rfl ?_
        refine o 161 (I ((if (w64 ((len s_1) + 1)) < u5 then (w64 ((len s_1) + 1)) else u5))) rfl rfl (e_move rfl) ?_
        refine o 177 (I ((w64 ((if (w64 ((len s_1) + 1)) < u5 then (w64 ((len s_1) + 1)) else u5) - 1)))) rfl rfl (e_bin rfl rfl rfl) ?_
        refine o 193 (I ((w64 ((if (w64 ((len s_1) + 1)) < u5 then (w64 ((len s_1) + 1)) else u5) - 1)))) rfl rfl (e_assign rfl) ?_
        refine s_ops ?_
        refine s_seq rfl ?_
        refine s_reg rfl ?_
        refine o 209 (I (0)) rfl rfl (e_assign rfl) ?_
        refine s_ops ?_
        refine s_seq rfl ?_
        refine s_block rfl ?_
        obtain ⟨y12, hy12, hy121, hy122⟩ := bJ h
        refine s_loop rfl ?_
        refine run_forget [0, 1, 2, 3, 9, 10] [113] [⟨0, 1, (m6).map str⟩] rfl rfl rfl rfl ?_
        refine strings_genSplit_la_run s_1 sep_2 sepSave_3 n_4 u5 rfl hy12 (fun r' e st hq => by rw [hy121 r' e] at hq; exact hq) (fun u12 hu => ?_)
        replace h := hy122 u12 hu
        refine s_seq rfl ?_
        refine s_reg rfl ?_
        refine o 18 (.hs 1 0 [] 1 0 (u12.2.2).length) rfl rfl (e_move rfl) ?_
        refine o 34 (I (u12.2.1)) rfl rfl (e_move rfl) ?_
        refine o 50 (str (u12.1)) rfl rfl (e_move rfl) ?_
        obtain ⟨e13, he13, h⟩ := bS h
        refine o 66 (.hp 1 0 [] 1 (0 + Int.toNat (u12.2.1)) 0) rfl rfl (e_indexAddr rfl rfl rfl (ix_hs (xs := u12.2.2) rfl rfl rfl he13)) ?_
        refine o0 82 rfl rfl (e_st rfl rfl (st_at (path := []) (pl := true) (e' := str (u12.1)) (es2' := ((setI u12.2.2 u12.2.1 u12.1)).map str) rfl (absorb_plain rfl) rfl rfl rfl (ra_n) (get_map (f := str) (xs := u12.2.2) he13) rfl rfl rfl (set_map (f := str) (xs := u12.2.2) (y := u12.1)) (sr_n) 0 rfl)) ?_
        try rw [← len_setI (xs := u12.2.2) (i := u12.2.1) (y := u12.1)]
        refine s_ops ?_
        refine s_seq rfl ?_
        refine s_reg rfl ?_
        refine o 98 (.hs 1 0 [] 1 0 ((setI u12.2.2 u12.2.1 u12.1)).length) rfl rfl (e_move rfl) ?_
        refine o 114 (I (u12.2.1)) rfl rfl (e_move rfl) ?_
        refine o 130 (I ((w64 (u12.2.1 + 1)))) rfl rfl (e_bin rfl rfl rfl) ?_
        obtain ⟨s14, hs14, h⟩ := bS h
        refine o 146 (.hs 1 0 [] 1 (0 + Int.toNat (0)) (Int.toNat ((w64 (u12.2.1 + 1))) - Int.toNat (0))) rfl rfl (e_slice rfl rfl rfl rfl (sl_hs (xs := (setI u12.2.2 u12.2.1 u12.1)) rfl rfl rfl rfl rfl hs14)) ?_
        refine o 162 (.hs 1 0 [] 1 (0 + Int.toNat (0)) (Int.toNat ((w64 (u12.2.1 + 1))) - Int.toNat (0))) rfl rfl (e_assign rfl) ?_
        refine s_ops ?_
        obtain rfl := Option.some.inj h
        exact s_ret rfl (fin (vs := [.hs 1 0 [] 1 (0 + Int.toNat (0)) (Int.toNat ((w64 (u12.2.1 + 1))) - Int.toNat (0))]) rfl (absE (abs1 rfl (abs_sub (path := []) (f := str) (xs := (setI u12.2.2 u12.2.1 u12.1)) rfl rfl (ra_n) hs14 rfl (to_n))) (absEN)) rfl rfl)
      have r5 : ∀ r', y5 = .inl r' → ∀ st, strings_genSplit_Q s_1 sep_2 sepSave_3 n_4 r' st → (strings_genSplit_Q s_1 sep_2 sepSave_3 n_4 r) st := fun r' e st hq => by rw [hy51 r' e] at hq; exact hq
      replace h := hy5
      refine s_cond rfl rfl (fun hb => ?_) (fun hb => ?_)
      · replace h := cT hb h
        refine s_reg rfl ?_
        refine o 129 (str (s_1)) rfl rfl (e_move rfl) ?_
        refine o 145 (str (sep_2)) rfl rfl (e_move rfl) ?_
        obtain ⟨r15, hr15, h⟩ := bS h
        refine o 161 (I (r15)) rfl rfl (e_callV rfl rfl (call_q rfl rfl rfl (avS (shP rfl) (avS (shP rfl) (avN))) (strings_Count_F hr15) rfl rfl rfl)) ?_
        refine o 177 (I ((w64 (r15 + 1)))) rfl rfl (e_bin rfl rfl rfl) ?_
        refine o 193 (I ((w64 (r15 + 1)))) rfl rfl (e_assign rfl) ?_
        refine s_ops ?_
        refine run_forget [0, 1, 2, 3] [] [] rfl rfl rfl rfl ?_
        exact j5 _ (Option.some.inj h).symm
      · replace h := cF hb h
        refine s_skip rfl ?_
        refine run_forget [0, 1, 2, 3] [] [] rfl rfl rfl rfl ?_
        exact j5 _ (Option.some.inj h).symm
noncomputable def strings_genSplit_ent : Ent := ⟨[false, false, false, false], entF4 (decBy str) (decBy str) (decBy I) (decBy I) fun s_1 sep_2 sepSave_3 n_4 => (strings_genSplit s_1 sep_2 sepSave_3 n_4).map fun r => (.usl 1 ((r).map str), [])⟩
theorem strings_genSplit_F {s_1 : Str} {sep_2 : Str} {sepSave_3 : Int} {n_4 : Int} {r : (List Str)} (h : strings_genSplit s_1 sep_2 sepSave_3 n_4 = some r) : strings_genSplit_ent.F [str (s_1), str (sep_2), I (sepSave_3), I (n_4)] = some (.usl 1 ((r).map str), []) := by
  have e : strings_genSplit_ent.F [str (s_1), str (sep_2), I (sepSave_3), I (n_4)] = (strings_genSplit s_1 sep_2 sepSave_3 n_4).map fun r => (.usl 1 ((r).map str), []) := by
    simp only [strings_genSplit_ent, entF4, decS, dec_ok str_inj, dec_ok str_inj, dec_ok I_inj, dec_ok I_inj, Option.bind_some]
  refine Eq.trans ?_ ((congrArg (Option.map fun r => ((.usl 1 ((r).map str) : V), ([] : List V))) h))
  exact e
theorem strings_genSplit_good {G : Go.Ln.Ground} (g142 : Good Tryd.prog G 142 strings_Index_ent) (g141 : Good Tryd.prog G 141 strings_Count_ent) : Good Tryd.prog G 130 strings_genSplit_ent := by
  refine good_of_run (E := strings_genSplit_E) (fnOf_good (by
    intro p hp
    simp only [List.mem_cons, List.not_mem_nil, or_false] at hp
    rcases hp with rfl | rfl
    · exact g142
    · exact g141)) agree_mk (Checked.mixed Tryd.checked) Tryd.func130 (c := strings_genSplit_c) (n := 4) ⟨rfl, rfl, by decide⟩ ?_
  intro vs r os h
  obtain ⟨v0, v1, v2, v3, s_1, sep_2, sepSave_3, n_4, rfl, q0, q1, q2, q3, h9⟩ := entI4 h
  obtain rfl := dec_of q0
  obtain rfl := dec_of q1
  obtain rfl := dec_of q2
  obtain rfl := dec_of q3
  obtain ⟨r1, hr1, he⟩ := Option.map_eq_some_iff.1 h9
  cases he
  exact ⟨rfl, strings_genSplit_run s_1 sep_2 sepSave_3 n_4 r1 hr1⟩
noncomputable def strings_Split_c : Code := bodyOf Tryd.f109
noncomputable def strings_Split_E : Env := mkE Tryd.prog [(130, strings_genSplit_ent)]
def strings_Split_Q (s_1 : Str) (sep_2 : Str) (r : (List Str)) (st : St) : Prop := finish strings_Split_E Tryd.f109 [false, false] (enter Tryd.f109 [str (s_1), str (sep_2)]).1 st = some (.usl 1 ((r).map str), [])
theorem strings_Split_run (s_1 : Str) (sep_2 : Str) (r : (List Str)) (h : strings_Split s_1 sep_2 = some r) : Run strings_Split_E 0 (strings_Split_Q s_1 sep_2 r) [.code strings_Split_c] (enter Tryd.f109 [str (s_1), str (sep_2)]).2 := by
  refine run_at (enter_eq (ys := [str (s_1), str (sep_2)]) (R := []) (n := 8) (l := [(0, str (s_1)), (1, str (sep_2))]) (nx := 1) rfl rfl rfl) ?_
  unfold strings_Split at h
  refine s_seq rfl ?_
  refine s_reg rfl ?_
  refine o 17 (.isl true []) rfl rfl (e_assign rfl) ?_
  refine s_ops ?_
  refine s_seq rfl ?_
  refine s_reg rfl ?_
  refine o 33 (str (s_1)) rfl rfl (e_move rfl) ?_
  refine o 49 (str (sep_2)) rfl rfl (e_move rfl) ?_
  obtain ⟨r3, hr3, h⟩ := bS h
  refine o 65 (.hs 49 0 [] 1 0 (r3).length) rfl rfl (e_callV rfl rfl (call_R (ys := [.hs 49 0 [] 1 0 (r3).length]) (R := [(0, 0, ⟨0, 1, (r3).map str⟩)]) rfl rfl rfl (avS (shP rfl) (avS (shP rfl) (avS (shP rfl) (avS (shP rfl) (avN))))) (strings_genSplit_F hr3) (by simp [hasImm, hasImms, himm_map str_himm]) (by simp [inst1s, inst1, instC, cells, comps]) rfl rfl)) ?_
  refine o 81 (.hs 49 0 [] 1 0 (r3).length) rfl rfl (e_assign rfl) ?_
  refine s_ops ?_
  obtain rfl := Option.some.inj h
  exact s_ret rfl (fin (vs := [.hs 49 0 [] 1 0 (r3).length]) rfl (absE (abs1 rfl (abs_hs rfl (List.length_map ..).symm)) (absEN)) rfl rfl)
noncomputable def strings_Split_ent : Ent := ⟨[false, false], entF2 (decBy str) (decBy str) fun s_1 sep_2 => (strings_Split s_1 sep_2).map fun r => (.usl 1 ((r).map str), [])⟩
theorem strings_Split_F {s_1 : Str} {sep_2 : Str} {r : (List Str)} (h : strings_Split s_1 sep_2 = some r) : strings_Split_ent.F [str (s_1), str (sep_2)] = some (.usl 1 ((r).map str), []) := by
  have e : strings_Split_ent.F [str (s_1), str (sep_2)] = (strings_Split s_1 sep_2).map fun r => (.usl 1 ((r).map str), []) := by
    simp only [strings_Split_ent, entF2, decS, dec_ok str_inj, dec_ok str_inj, Option.bind_some]
  refine Eq.trans ?_ ((congrArg (Option.map fun r => ((.usl 1 ((r).map str) : V), ([] : List V))) h))
  exact e
theorem strings_Split_good {G : Go.Ln.Ground} (g130 : Good Tryd.prog G 130 strings_genSplit_ent) : Good Tryd.prog G 109 strings_Split_ent := by
  refine good_of_run (E := strings_Split_E) (fnOf_good (by
    intro p hp
    simp only [List.mem_cons, List.not_mem_nil, or_false] at hp
    rcases hp with rfl
    · exact g130)) agree_mk (Checked.mixed Tryd.checked) Tryd.func109 (c := strings_Split_c) (n := 2) ⟨rfl, rfl, by decide⟩ ?_
  intro vs r os h
  obtain ⟨v0, v1, s_1, sep_2, rfl, q0, q1, h9⟩ := entI2 h
  obtain rfl := dec_of q0
  obtain rfl := dec_of q1
  obtain ⟨r1, hr1, he⟩ := Option.map_eq_some_iff.1 h9
  cases he
  exact ⟨rfl, strings_Split_run s_1 sep_2 r1 hr1⟩
noncomputable def slices_Index_string_string_c : Code := bodyOf Tryd.f110
noncomputable def slices_Index_string_string_E : Env := mkE Tryd.prog []
def slices_Index_string_string_Q (s_1 : List Str) (v_2 : Str) (r : Int) (st : St) : Prop := finish slices_Index_string_string_E Tryd.f110 [false, false] (enter Tryd.f110 [.isl false ((s_1).map str), str (v_2)]).1 st = some (I (r), [])
theorem slices_Index_string_string_la_run (s_1 : List Str) (v_2 : Str)  {Q : St → Prop} {K : List It} (hK : noD K = true) {x3 : Int} {y : Int ⊕ Unit} (h : slices_Index_string_string_la s_1 v_2 x3 = some y) : (∀ r', y = .inl r' → ∀ st, slices_Index_string_string_Q s_1 v_2 r' st → Q st) → (∀ u : Unit, y = .inr u → Run slices_Index_string_string_E 0 Q K ⟨mkTm .dead 19 [], mkS (rtL [] 1), 1⟩) → Run slices_Index_string_string_E 0 Q (.code (cL (cL (cR (cL (cR slices_Index_string_string_c))))) :: .lp (cL (cL (cR (cL (cR slices_Index_string_string_c))))) :: .blk 0 :: K) ⟨mkTm .dead 19 [(0, .isl false ((s_1).map str)), (1, str (v_2)), (7, I ((len s_1))), (8, I (x3))], mkS (rtL [] 1), 1⟩ := by
  refine fix_ind (P := fun (x3 : Int) (y : Int ⊕ Unit) => (∀ r', y = .inl r' → ∀ st, slices_Index_string_string_Q s_1 v_2 r' st → Q st) → (∀ u : Unit, y = .inr u → Run slices_Index_string_string_E 0 Q K ⟨mkTm .dead 19 [], mkS (rtL [] 1), 1⟩) → Run slices_Index_string_string_E 0 Q (.code (cL (cL (cR (cL (cR slices_Index_string_string_c))))) :: .lp (cL (cL (cR (cL (cR slices_Index_string_string_c))))) :: .blk 0 :: K) ⟨mkTm .dead 19 [(0, .isl false ((s_1).map str)), (1, str (v_2)), (7, I ((len s_1))), (8, I (x3))], mkS (rtL [] 1), 1⟩) (slices_Index_string_string_la_fin s_1 v_2) ?_ h
  clear h y x3
  intro self ih x3 y h hr hn
  unfold slices_Index_string_string_la_F at h
  refine s_seq rfl ?_
  refine s_reg rfl ?_
  refine o 17 (B ((decide (x3 < (len s_1))))) rfl rfl (e_bin rfl rfl rfl) ?_
  refine s_ops ?_
  refine s_seq rfl ?_
  refine s_cond rfl rfl (fun hb => ?_) (fun hb => ?_)
  · replace h := cT hb h
    refine s_skip rfl ?_
    refine s_seq rfl ?_
    refine s_block rfl ?_
    refine s_seq rfl ?_
    refine s_reg rfl ?_
    refine o 33 (I (x3)) rfl rfl (e_move rfl) ?_
    refine o 49 (I (x3)) rfl rfl (e_assign rfl) ?_
    refine s_ops ?_
    refine s_seq rfl ?_
    refine s_reg rfl ?_
    refine o 65 (str (v_2)) rfl rfl (e_move rfl) ?_
    refine o 81 (.isl false ((s_1).map str)) rfl rfl (e_move rfl) ?_
    refine o 97 (I (x3)) rfl rfl (e_move rfl) ?_
    obtain ⟨e4, he4, h⟩ := bS h
    refine o 113 (.iptr (str (e4)) 0) rfl rfl (e_indexAddr rfl rfl rfl (ix_islE rfl rfl rfl rfl he4)) ?_
    refine o 129 (str (e4)) rfl rfl (e_ld rfl rfl) ?_
    refine o 145 (B ((v_2 == e4))) rfl rfl (e_bin rfl rfl b_streq) ?_
    refine s_ops ?_
    refine s_cond rfl rfl (fun hb => ?_) (fun hb => ?_)
    · replace h := cT hb h
      refine s_seq rfl ?_
      refine s_reg rfl ?_
      refine o 161 (I (x3)) rfl rfl (e_move rfl) ?_
      refine o 177 (I (x3)) rfl rfl (e_assign rfl) ?_
      refine s_ops ?_
      exact s_ret rfl (hr _ (Option.some.inj h).symm _ (fin (vs := [I (x3)]) rfl (absE (absorb_plain rfl) (absEN)) rfl rfl))
    · replace h := cF hb h
      refine s_skip rfl ?_
      refine s_blk ?_
      refine s_reg rfl ?_
      refine o 161 (I ((w64 (x3 + 1)))) rfl rfl (e_bin rfl rfl rfl) ?_
      refine o 177 (I ((w64 (x3 + 1)))) rfl rfl (e_move rfl) ?_
      refine s_ops ?_
      refine s_lp ?_
      refine run_forget [0, 1, 7, 8] [] [] rfl rfl rfl rfl ?_
      exact ih _ _ h hr hn
  · replace h := cF hb h
    refine s_exit rfl rfl ?_
    refine run_forget [] [] [] rfl rfl rfl hK ?_
    exact hn _ (Option.some.inj h).symm
theorem slices_Index_string_string_run (s_1 : List Str) (v_2 : Str) (r : Int) (h : slices_Index_string_string s_1 v_2 = some r) : Run slices_Index_string_string_E 0 (slices_Index_string_string_Q s_1 v_2 r) [.code slices_Index_string_string_c] (enter Tryd.f110 [.isl false ((s_1).map str), str (v_2)]).2 := by
  refine run_at (enter_eq (ys := [.isl false ((s_1).map str), str (v_2)]) (R := []) (n := 19) (l := [(0, .isl false ((s_1).map str)), (1, str (v_2))]) (nx := 1) rfl rfl rfl) ?_
  unfold slices_Index_string_string at h
  refine s_seq rfl ?_
  refine s_reg rfl ?_
  refine o 17 (I (0)) rfl rfl (e_assign rfl) ?_
  refine s_ops ?_
  refine s_seq rfl ?_
  refine s_seq rfl ?_
  refine s_reg rfl ?_
  refine o 33 (.isl false ((s_1).map str)) rfl rfl (e_move rfl) ?_
  refine o 49 (I ((len s_1))) rfl rfl (e_len rfl rfl rfl (l_isl rfl)) ?_
  refine o 65 (I (0)) rfl rfl (e_move rfl) ?_
  refine s_ops ?_
  refine s_block rfl ?_
  obtain ⟨y5, hy5, hy51, hy52⟩ := bJ h
  refine s_loop rfl ?_
  refine run_forget [0, 1, 7, 8] [] [] rfl rfl rfl rfl ?_
  refine slices_Index_string_string_la_run s_1 v_2 rfl hy5 (fun r' e st hq => by rw [hy51 r' e] at hq; exact hq) (fun u5 hu => ?_)
  replace h := hy52 u5 hu
  refine s_seq rfl ?_
  refine s_reg rfl ?_
  refine o 17 (I ((-1))) rfl rfl (e_assign rfl) ?_
  refine s_ops ?_
  obtain rfl := Option.some.inj h
  exact s_ret rfl (fin (vs := [I ((-1))]) rfl (absE (absorb_plain rfl) (absEN)) rfl rfl)
noncomputable def slices_Index_string_string_ent : Ent := ⟨[false, false], entF2 (decS str) (decBy str) fun s_1 v_2 => (slices_Index_string_string s_1 v_2).map fun r => (I (r), [])⟩
theorem slices_Index_string_string_F {s_1 : List Str} {v_2 : Str} {r : Int} (h : slices_Index_string_string s_1 v_2 = some r) : slices_Index_string_string_ent.F [.isl false ((s_1).map str), str (v_2)] = some (I (r), []) := by
  have e : slices_Index_string_string_ent.F [.isl false ((s_1).map str), str (v_2)] = (slices_Index_string_string s_1 v_2).map fun r => (I (r), []) := by
    simp only [slices_Index_string_string_ent, entF2, decS, dec_ok (isl_inj str_inj), dec_ok str_inj, Option.bind_some]
  refine Eq.trans ?_ ((congrArg (Option.map fun r => ((I (r) : V), ([] : List V))) h))
  exact e
theorem slices_Index_string_string_good {G : Go.Ln.Ground} : Good Tryd.prog G 110 slices_Index_string_string_ent := by
  refine good_of_run (E := slices_Index_string_string_E) (fnOf_good (by simp)) agree_mk (Checked.mixed Tryd.checked) Tryd.func110 (c := slices_Index_string_string_c) (n := 2) ⟨rfl, rfl, by decide⟩ ?_
  intro vs r os h
  obtain ⟨v0, v1, s_1, v_2, rfl, q0, q1, h9⟩ := entI2 h
  obtain rfl := dec_of q0
  obtain rfl := dec_of q1
  obtain ⟨r1, hr1, he⟩ := Option.map_eq_some_iff.1 h9
  cases he
  exact ⟨rfl, slices_Index_string_string_run s_1 v_2 r1 hr1⟩
noncomputable def slices_Contains_string_string_c : Code := bodyOf Tryd.f90
noncomputable def slices_Contains_string_string_E : Env := mkE Tryd.prog [(110, slices_Index_string_string_ent)]
def slices_Contains_string_string_Q (s_1 : List Str) (v_2 : Str) (r : Bool) (st : St) : Prop := finish slices_Contains_string_string_E Tryd.f90 [false, false] (enter Tryd.f90 [.isl false ((s_1).map str), str (v_2)]).1 st = some (B (r), [])
theorem slices_Contains_string_string_run (s_1 : List Str) (v_2 : Str) (r : Bool) (h : slices_Contains_string_string s_1 v_2 = some r) : Run slices_Contains_string_string_E 0 (slices_Contains_string_string_Q s_1 v_2 r) [.code slices_Contains_string_string_c] (enter Tryd.f90 [.isl false ((s_1).map str), str (v_2)]).2 := by
  refine run_at (enter_eq (ys := [.isl false ((s_1).map str), str (v_2)]) (R := []) (n := 9) (l := [(0, .isl false ((s_1).map str)), (1, str (v_2))]) (nx := 1) rfl rfl rfl) ?_
  unfold slices_Contains_string_string at h
  refine s_seq rfl ?_
  refine s_reg rfl ?_
  refine o 17 (B (false)) rfl rfl (e_assign rfl) ?_
  refine s_ops ?_
  refine s_seq rfl ?_
  refine s_reg rfl ?_
  refine o 33 (.isl false ((s_1).map str)) rfl rfl (e_move rfl) ?_
  refine o 49 (str (v_2)) rfl rfl (e_move rfl) ?_
  obtain ⟨r3, hr3, h⟩ := bS h
  refine o 65 (I (r3)) rfl rfl (e_callV rfl rfl (call_q rfl rfl rfl (avS (shP rfl) (avS (shP rfl) (avN))) (slices_Index_string_string_F hr3) rfl rfl rfl)) ?_
  refine o 81 (B ((decide (r3 ≥ 0)))) rfl rfl (e_bin rfl rfl rfl) ?_
  refine o 97 (B ((decide (r3 ≥ 0)))) rfl rfl (e_assign rfl) ?_
  refine s_ops ?_
  obtain rfl := Option.some.inj h
  exact s_ret rfl (fin (vs := [B ((decide (r3 ≥ 0)))]) rfl (absE (absorb_plain rfl) (absEN)) rfl rfl)
noncomputable def slices_Contains_string_string_ent : Ent := ⟨[false, false], entF2 (decS str) (decBy str) fun s_1 v_2 => (slices_Contains_string_string s_1 v_2).map fun r => (B (r), [])⟩
theorem slices_Contains_string_string_F {s_1 : List Str} {v_2 : Str} {r : Bool} (h : slices_Contains_string_string s_1 v_2 = some r) : slices_Contains_string_string_ent.F [.isl false ((s_1).map str), str (v_2)] = some (B (r), []) := by
  have e : slices_Contains_string_string_ent.F [.isl false ((s_1).map str), str (v_2)] = (slices_Contains_string_string s_1 v_2).map fun r => (B (r), []) := by
    simp only [slices_Contains_string_string_ent, entF2, decS, dec_ok (isl_inj str_inj), dec_ok str_inj, Option.bind_some]
  refine Eq.trans ?_ ((congrArg (Option.map fun r => ((B (r) : V), ([] : List V))) h))
  exact e
theorem slices_Contains_string_string_good {G : Go.Ln.Ground} (g110 : Good Tryd.prog G 110 slices_Index_string_string_ent) : Good Tryd.prog G 90 slices_Contains_string_string_ent := by
  refine good_of_run (E := slices_Contains_string_string_E) (fnOf_good (by
    intro p hp
    simp only [List.mem_cons, List.not_mem_nil, or_false] at hp
    rcases hp with rfl
    · exact g110)) agree_mk (Checked.mixed Tryd.checked) Tryd.func90 (c := slices_Contains_string_string_c) (n := 2) ⟨rfl, rfl, by decide⟩ ?_
  intro vs r os h
  obtain ⟨v0, v1, s_1, v_2, rfl, q0, q1, h9⟩ := entI2 h
  obtain rfl := dec_of q0
  obtain rfl := dec_of q1
  obtain ⟨r1, hr1, he⟩ := Option.map_eq_some_iff.1 h9
  cases he
  exact ⟨rfl, slices_Contains_string_string_run s_1 v_2 r1 hr1⟩
noncomputable def impl_IsValidName_c : Code := bodyOf Tryd.f89
noncomputable def impl_IsValidName_E : Env := mkE Tryd.prog [(55, impl_within_ent), (109, strings_Split_ent), (90, slices_Contains_string_string_ent)]
def impl_IsValidName_Q (s_1 : Str) (r : Bool) (st : St) : Prop := finish impl_IsValidName_E Tryd.f89 [false] (enter Tryd.f89 [str (s_1)]).1 st = some (B (r), [])
theorem impl_IsValidName_la_run (s_1 : Str)  {Q : St → Prop} {K : List It} (hK : noD K = true) {x4 : Int} {y : Bool ⊕ Unit} (h : impl_IsValidName_la s_1 x4 = some y) : (∀ r', y = .inl r' → ∀ st, impl_IsValidName_Q s_1 r' st → Q st) → (∀ u : Unit, y = .inr u → Run impl_IsValidName_E 0 Q K ⟨mkTm .dead 46 [(0, str (s_1))], mkS (rtL [] 1), 1⟩) → Run impl_IsValidName_E 0 Q (.code (cL (cL (cR (cL (cR (cR impl_IsValidName_c)))))) :: .lp (cL (cL (cR (cL (cR (cR impl_IsValidName_c)))))) :: .blk 0 :: K) ⟨mkTm .dead 46 [(0, str (s_1)), (20, I ((len s_1))), (21, I (x4))], mkS (rtL [] 1), 1⟩ := by
  refine fix_ind (P := fun (x4 : Int) (y : Bool ⊕ Unit) => (∀ r', y = .inl r' → ∀ st, impl_IsValidName_Q s_1 r' st → Q st) → (∀ u : Unit, y = .inr u → Run impl_IsValidName_E 0 Q K ⟨mkTm .dead 46 [(0, str (s_1))], mkS (rtL [] 1), 1⟩) → Run impl_IsValidName_E 0 Q (.code (cL (cL (cR (cL (cR (cR impl_IsValidName_c)))))) :: .lp (cL (cL (cR (cL (cR (cR impl_IsValidName_c)))))) :: .blk 0 :: K) ⟨mkTm .dead 46 [(0, str (s_1)), (20, I ((len s_1))), (21, I (x4))], mkS (rtL [] 1), 1⟩) (impl_IsValidName_la_fin s_1) ?_ h
  clear h y x4
  intro self ih x4 y h hr hn
  unfold impl_IsValidName_la_F at h
  refine s_seq rfl ?_
  refine s_reg rfl ?_
  refine o 17 (B ((decide (x4 < (len s_1))))) rfl rfl (e_bin rfl rfl rfl) ?_
  refine s_ops ?_
  refine s_seq rfl ?_
  refine s_cond rfl rfl (fun hb => ?_) (fun hb => ?_)
  · replace h := cT hb h
    refine s_skip rfl ?_
    refine s_seq rfl ?_
    refine s_block rfl ?_
    refine s_seq rfl ?_
    refine s_reg rfl ?_
    refine o 33 (I (x4)) rfl rfl (e_move rfl) ?_
    refine o 49 (I (x4)) rfl rfl (e_assign rfl) ?_
    refine s_ops ?_
    refine s_seq rfl ?_
    refine s_reg rfl ?_
    refine o 65 (str (s_1)) rfl rfl (e_move rfl) ?_
    refine o 81 (I (x4)) rfl rfl (e_move rfl) ?_
    obtain ⟨c5, hc5, h⟩ := bS h
    refine o 97 (.int .u8 ((c5.toNat : Int))) rfl rfl (e_index rfl rfl (i_str rfl rfl hc5)) ?_
    refine o 113 (.int .u8 ((c5.toNat : Int))) rfl rfl (e_assign rfl) ?_
    refine s_ops ?_
    refine s_seq rfl ?_
    refine s_reg rfl ?_
    refine o 129 (.int .u8 ((c5.toNat : Int))) rfl rfl (e_move rfl) ?_
    refine o 145 (B ((decide ((c5.toNat : Int) < 97)))) rfl rfl (e_bin rfl rfl rfl) ?_
    refine o 161 (B ((decide ((c5.toNat : Int) < 97)))) rfl rfl (e_move rfl) ?_
    obtain ⟨u6, hu6, h⟩ := lJ h
    have j6 : Run impl_IsValidName_E 0 Q (.code (cR (cR (cR (cL (cL (cR (cR (cL (cL (cR (cL (cR (cR impl_IsValidName_c))))))))))))) :: .blk 1 :: .code (cR (cR (cR (cL (cL (cR (cL (cR (cR impl_IsValidName_c))))))))) :: .lp (cL (cL (cR (cL (cR (cR impl_IsValidName_c)))))) :: .blk 0 :: K) ⟨mkTm .dead 46 [(0, str (s_1)), (20, I ((len s_1))), (21, I (x4)), (40, B (u6))], mkS (rtL [] 1), 1⟩ := by
      refine s_cond rfl rfl (fun hb => ?_) (fun hb => ?_)
      · replace h := cT hb h
        refine s_seq rfl ?_
        refine s_reg rfl ?_
        refine o 17 (B (false)) rfl rfl (e_assign rfl) ?_
        refine s_ops ?_
        exact s_ret rfl (hr _ (Option.some.inj h).symm _ (fin (vs := [B (false)]) rfl (absE (absorb_plain rfl) (absEN)) rfl rfl))
      · replace h := cF hb h
        refine s_skip rfl ?_
        refine s_blk ?_
        refine s_reg rfl ?_
        refine o 17 (I ((w64 (x4 + 1)))) rfl rfl (e_bin rfl rfl rfl) ?_
        refine o 33 (I ((w64 (x4 + 1)))) rfl rfl (e_move rfl) ?_
        refine s_ops ?_
        refine s_lp ?_
        refine run_forget [0, 20, 21] [] [] rfl rfl rfl rfl ?_
        exact ih _ _ h hr hn
    replace h := hu6
    clear hu6
    refine r_split (b := (decide ((c5.toNat : Int) < 97))) 29 rfl (fun hb => ?_) (fun hb => ?_)
    · replace h := cTp hb h
      refine os 177 rfl rfl rfl rfl ?_
      refine os 193 rfl rfl rfl rfl ?_
      refine o 209 (B (true)) rfl rfl (e_pickT rfl rfl) ?_
      refine o 225 (B (true)) rfl rfl (e_move rfl) ?_
      refine og 241 (.int .u8 ((c5.toNat : Int))) rfl rfl rfl rfl (e_move rfl) ?_
      refine og 257 (B ((decide ((c5.toNat : Int) < 48)))) rfl rfl rfl rfl (e_bin rfl rfl rfl) ?_
      refine og 273 (B ((decide ((c5.toNat : Int) < 48)))) rfl rfl rfl rfl (e_move rfl) ?_
      obtain ⟨u7, hu7, h⟩ := lJ h
      have j7 : Run impl_IsValidName_E 0 Q (.code (cR (cR (cR (cL (cL (cR (cR (cL (cL (cR (cL (cR (cR impl_IsValidName_c))))))))))))) :: .blk 1 :: .code (cR (cR (cR (cL (cL (cR (cL (cR (cR impl_IsValidName_c))))))))) :: .lp (cL (cL (cR (cL (cR (cR impl_IsValidName_c)))))) :: .blk 0 :: K) ⟨mkTm .dead 46 [(0, str (s_1)), (20, I ((len s_1))), (21, I (x4)), (40, B (u7))], mkS (rtL [] 1), 1⟩ := by
        refine run_forget [0, 20, 21, 40] [] [] rfl rfl rfl rfl ?_
        subst h
        exact j6
      replace h := hu7
      clear hu7
      refine r_split (b := (decide ((c5.toNat : Int) < 48))) 36 rfl (fun hb => ?_) (fun hb => ?_)
      · replace h := cTp hb h
        refine os 289 rfl rfl rfl rfl ?_
        refine os 305 rfl rfl rfl rfl ?_
        refine og 321 (B (true)) rfl rfl rfl rfl (e_pickT rfl rfl) ?_
        refine o 337 (B (true)) rfl rfl (e_pickT rfl rfl) ?_
        refine s_ops ?_
        refine run_forget [0, 20, 21, 40] [] [] rfl rfl rfl rfl ?_
        subst h
        exact j7
      · replace h := cFp hb h
        refine og 289 (.int .u8 ((c5.toNat : Int))) rfl rfl rfl rfl (e_move rfl) ?_
        refine og 305 (B ((decide ((c5.toNat : Int) > 57)))) rfl rfl rfl rfl (e_bin rfl rfl rfl) ?_
        refine og 321 (B ((decide ((c5.toNat : Int) > 57)))) rfl rfl rfl rfl (e_pickF rfl rfl) ?_
        refine o 337 (B ((decide ((c5.toNat : Int) > 57)))) rfl rfl (e_pickT rfl rfl) ?_
        refine s_ops ?_
        refine run_forget [0, 20, 21, 40] [] [] rfl rfl rfl rfl ?_
        subst h
        exact j7
    · replace h := cFp hb h
      refine og 177 (.int .u8 ((c5.toNat : Int))) rfl rfl rfl rfl (e_move rfl) ?_
      refine og 193 (B ((decide ((c5.toNat : Int) > 122)))) rfl rfl rfl rfl (e_bin rfl rfl rfl) ?_
      refine o 209 (B ((decide ((c5.toNat : Int) > 122)))) rfl rfl (e_pickF rfl rfl) ?_
      refine o 225 (B ((decide ((c5.toNat : Int) > 122)))) rfl rfl (e_move rfl) ?_
      obtain ⟨u8, hu8, h⟩ := lJ h
      have j8 : Run impl_IsValidName_E 0 Q (.code (cR (cR (cR (cL (cL (cR (cR (cL (cL (cR (cL (cR (cR impl_IsValidName_c))))))))))))) :: .blk 1 :: .code (cR (cR (cR (cL (cL (cR (cL (cR (cR impl_IsValidName_c))))))))) :: .lp (cL (cL (cR (cL (cR (cR impl_IsValidName_c)))))) :: .blk 0 :: K) ⟨mkTm .dead 46 [(0, str (s_1)), (20, I ((len s_1))), (21, I (x4)), (40, B (u8))], mkS (rtL [] 1), 1⟩ := by
        refine run_forget [0, 20, 21, 40] [] [] rfl rfl rfl rfl ?_
        subst h
        exact j6
      replace h := hu8
      clear hu8
      refine r_split (b := (decide ((c5.toNat : Int) > 122))) 33 rfl (fun hb => ?_) (fun hb => ?_)
      · replace h := cTp hb h
        refine og 241 (.int .u8 ((c5.toNat : Int))) rfl rfl rfl rfl (e_move rfl) ?_
        refine og 257 (B ((decide ((c5.toNat : Int) < 48)))) rfl rfl rfl rfl (e_bin rfl rfl rfl) ?_
        refine og 273 (B ((decide ((c5.toNat : Int) < 48)))) rfl rfl rfl rfl (e_move rfl) ?_
        obtain ⟨u9, hu9, h⟩ := lJ h
        have j9 : Run impl_IsValidName_E 0 Q (.code (cR (cR (cR (cL (cL (cR (cR (cL (cL (cR (cL (cR (cR impl_IsValidName_c))))))))))))) :: .blk 1 :: .code (cR (cR (cR (cL (cL (cR (cL (cR (cR impl_IsValidName_c))))))))) :: .lp (cL (cL (cR (cL (cR (cR impl_IsValidName_c)))))) :: .blk 0 :: K) ⟨mkTm .dead 46 [(0, str (s_1)), (20, I ((len s_1))), (21, I (x4)), (40, B (u9))], mkS (rtL [] 1), 1⟩ := by
          refine run_forget [0, 20, 21, 40] [] [] rfl rfl rfl rfl ?_
          subst h
          exact j8
        replace h := hu9
        clear hu9
        refine r_split (b := (decide ((c5.toNat : Int) < 48))) 36 rfl (fun hb => ?_) (fun hb => ?_)
        · replace h := cTp hb h
          refine os 289 rfl rfl rfl rfl ?_
          refine os 305 rfl rfl rfl rfl ?_
          refine og 321 (B (true)) rfl rfl rfl rfl (e_pickT rfl rfl) ?_
          refine o 337 (B (true)) rfl rfl (e_pickT rfl rfl) ?_
          refine s_ops ?_
          refine run_forget [0, 20, 21, 40] [] [] rfl rfl rfl rfl ?_
          subst h
          exact j9
        · replace h := cFp hb h
          refine og 289 (.int .u8 ((c5.toNat : Int))) rfl rfl rfl rfl (e_move rfl) ?_
          refine og 305 (B ((decide ((c5.toNat : Int) > 57)))) rfl rfl rfl rfl (e_bin rfl rfl rfl) ?_
          refine og 321 (B ((decide ((c5.toNat : Int) > 57)))) rfl rfl rfl rfl (e_pickF rfl rfl) ?_
          refine o 337 (B ((decide ((c5.toNat : Int) > 57)))) rfl rfl (e_pickT rfl rfl) ?_
          refine s_ops ?_
          refine run_forget [0, 20, 21, 40] [] [] rfl rfl rfl rfl ?_
          subst h
          exact j9
      · replace h := cFp hb h
        refine os 241 rfl rfl rfl rfl ?_
        refine os 257 rfl rfl rfl rfl ?_
        refine os 273 rfl rfl rfl rfl ?_
        refine os 289 rfl rfl rfl rfl ?_
        refine os 305 rfl rfl rfl rfl ?_
        refine os 321 rfl rfl rfl rfl ?_
        refine o 337 (B (false)) rfl rfl (e_pickF rfl rfl) ?_
        refine s_ops ?_
        refine run_forget [0, 20, 21, 40] [] [] rfl rfl rfl rfl ?_
        subst h
        exact j8
  · replace h := cF hb h
    refine s_exit rfl rfl ?_
    refine run_forget [0] [] [] rfl rfl rfl hK ?_
    exact hn _ (Option.some.inj h).symm
theorem impl_IsValidName_run (s_1 : Str) (r : Bool) (h : impl_IsValidName s_1 = some r) : Run impl_IsValidName_E 0 (impl_IsValidName_Q s_1 r) [.code impl_IsValidName_c] (enter Tryd.f89 [str (s_1)]).2 := by
  refine run_at (enter_eq (ys := [str (s_1)]) (R := []) (n := 46) (l := [(0, str (s_1))]) (nx := 1) rfl rfl rfl) ?_
  unfold impl_IsValidName at h
  refine s_seq rfl ?_
  refine s_reg rfl ?_
  refine o 17 (B (false)) rfl rfl (e_assign rfl) ?_
  refine s_ops ?_
  refine s_seq rfl ?_
  refine s_seq rfl ?_
  refine s_reg rfl ?_
  refine o 33 (str (s_1)) rfl rfl (e_move rfl) ?_
  refine o 49 (I ((len s_1))) rfl rfl (e_len rfl rfl rfl (l_str rfl)) ?_
  obtain ⟨r2, hr2, h⟩ := bS h
  refine o 65 (B (r2)) rfl rfl (e_callV rfl rfl (call_q rfl rfl rfl (avS (shP rfl) (avS (shP rfl) (avS (shP rfl) (avN)))) (impl_within_F hr2) rfl rfl rfl)) ?_
  refine o 81 (B ((!r2))) rfl rfl (e_un rfl rfl) ?_
  refine o 97 (B ((!r2))) rfl rfl (e_move rfl) ?_
  obtain ⟨y3, hy3, hy31, hy32⟩ := bJ h
  have j3 : ∀ u3, y3 = .inr u3 → Run impl_IsValidName_E 0 (impl_IsValidName_Q s_1 r) (.code (cR (cL (cR impl_IsValidName_c))) :: .code (cR (cR impl_IsValidName_c)) :: []) ⟨mkTm .dead 46 [(0, str (s_1)), (18, B (u3))], mkS (rtL [] 1), 1⟩ := by
    intro u3 hu
    replace h := hy32 u3 hu
    refine s_cond rfl rfl (fun hb => ?_) (fun hb => ?_)
    · replace h := cT hb h
      refine s_seq rfl ?_
      refine s_reg rfl ?_
      refine o 17 (B (false)) rfl rfl (e_assign rfl) ?_
      refine s_ops ?_
      obtain rfl := Option.some.inj h
      exact s_ret rfl (fin (vs := [B (false)]) rfl (absE (absorb_plain rfl) (absEN)) rfl rfl)
    · replace h := cF hb h
      refine s_skip rfl ?_
      refine s_seq rfl ?_
      refine s_seq rfl ?_
      refine s_reg rfl ?_
      refine o 17 (str (s_1)) rfl rfl (e_move rfl) ?_
      refine o 33 (I ((len s_1))) rfl rfl (e_len rfl rfl rfl (l_str rfl)) ?_
      refine o 49 (I (0)) rfl rfl (e_move rfl) ?_
      refine s_ops ?_
      refine s_block rfl ?_
      obtain ⟨y10, hy10, hy101, hy102⟩ := bJ h
      refine s_loop rfl ?_
      refine run_forget [0, 20, 21] [] [] rfl rfl rfl rfl ?_
      refine impl_IsValidName_la_run s_1 rfl hy10 (fun r' e st hq => by rw [hy101 r' e] at hq; exact hq) (fun u10 hu => ?_)
      replace h := hy102 u10 hu
      refine s_seq rfl ?_
      refine s_reg rfl ?_
      obtain ⟨r11, hr11, h⟩ := bS h
      refine o 17 (.hs 1 0 [] 1 0 (r11).length) rfl rfl (e_callV rfl rfl (call_R (ys := [.hs 1 0 [] 1 0 (r11).length]) (R := [(0, 0, ⟨0, 1, (r11).map str⟩)]) rfl rfl rfl (avS (shP rfl) (avS (shP rfl) (avN))) (strings_Split_F hr11) (by simp [hasImm, hasImms, himm_map str_himm]) (by simp [inst1s, inst1, instC, cells, comps]) rfl rfl)) ?_
      refine o 33 (str (s_1)) rfl rfl (e_move rfl) ?_
      obtain ⟨r12, hr12, h⟩ := bS h
      refine o 49 (B (r12)) rfl rfl (e_callV rfl rfl (call_q rfl rfl rfl (avS (sh1 rfl rfl (sh_hs (f := str) (g := str) (xs := r11) rfl rfl (imms_of str_imm))) (avS (shP rfl) (avN))) (slices_Contains_string_string_F hr12) rfl rfl rfl)) ?_
      refine o 65 (B ((!r12))) rfl rfl (e_un rfl rfl) ?_
      refine o 81 (B ((!r12))) rfl rfl (e_assign rfl) ?_
      refine s_ops ?_
      obtain rfl := Option.some.inj h
      exact s_ret rfl (fin (vs := [B ((!r12))]) rfl (absE (absorb_plain rfl) (absEN)) rfl rfl)
  have r3 : ∀ r', y3 = .inl r' → ∀ st, impl_IsValidName_Q s_1 r' st → (impl_IsValidName_Q s_1 r) st := fun r' e st hq => by rw [hy31 r' e] at hq; exact hq
  replace h := hy3
  refine r_split (b := (!r2)) 9 rfl (fun hb => ?_) (fun hb => ?_)
  · replace h := cT hb h
    refine os 113 rfl rfl rfl rfl ?_
    refine os 129 rfl rfl rfl rfl ?_
    refine os 145 rfl rfl rfl rfl ?_
    refine o 161 (B (true)) rfl rfl (e_pickT rfl rfl) ?_
    refine o 177 (B (true)) rfl rfl (e_move rfl) ?_
    refine os 193 rfl rfl rfl rfl ?_
    refine os 209 rfl rfl rfl rfl ?_
    refine os 225 rfl rfl rfl rfl ?_
    refine o 241 (B (true)) rfl rfl (e_pickT rfl rfl) ?_
    refine s_ops ?_
    refine run_forget [0, 18] [] [] rfl rfl rfl rfl ?_
    exact j3 _ (Option.some.inj h).symm
  · replace h := cF hb h
    refine og 113 (str (s_1)) rfl rfl rfl rfl (e_move rfl) ?_
    obtain ⟨c13, hc13, h⟩ := bS h
    refine og 129 (.int .u8 ((c13.toNat : Int))) rfl rfl rfl rfl (e_index rfl rfl (i_str rfl rfl hc13)) ?_
    refine og 145 (B ((decide ((c13.toNat : Int) < 97)))) rfl rfl rfl rfl (e_bin rfl rfl rfl) ?_
    refine o 161 (B ((decide ((c13.toNat : Int) < 97)))) rfl rfl (e_pickF rfl rfl) ?_
    refine o 177 (B ((decide ((c13.toNat : Int) < 97)))) rfl rfl (e_move rfl) ?_
    obtain ⟨y14, hy14, hy141, hy142⟩ := bL h
    have j14 : ∀ u14, y14 = .inr u14 → Run impl_IsValidName_E 0 (impl_IsValidName_Q s_1 r) (.code (cR (cL (cR impl_IsValidName_c))) :: .code (cR (cR impl_IsValidName_c)) :: []) ⟨mkTm .dead 46 [(0, str (s_1)), (18, B (u14))], mkS (rtL [] 1), 1⟩ := by
      intro u14 hu
      replace h := hy142 u14 hu
      refine run_forget [0, 18] [] [] rfl rfl rfl rfl ?_
      exact j3 _ (Option.some.inj h).symm
    have r14 : ∀ r', y14 = .inl r' → ∀ st, impl_IsValidName_Q s_1 r' st → (impl_IsValidName_Q s_1 r) st := fun r' e st hq => r3 r' (hy141 r' e) st hq
    replace h := hy14
    refine r_split (b := (decide ((c13.toNat : Int) < 97))) 14 rfl (fun hb => ?_) (fun hb => ?_)
    · replace h := cT hb h
      refine os 193 rfl rfl rfl rfl ?_
      refine os 209 rfl rfl rfl rfl ?_
      refine os 225 rfl rfl rfl rfl ?_
      refine o 241 (B (true)) rfl rfl (e_pickT rfl rfl) ?_
      refine s_ops ?_
      refine run_forget [0, 18] [] [] rfl rfl rfl rfl ?_
      exact j14 _ (Option.some.inj h).symm
    · replace h := cF hb h
      refine og 193 (str (s_1)) rfl rfl rfl rfl (e_move rfl) ?_
      obtain ⟨c15, hc15, h⟩ := bS h
      refine og 209 (.int .u8 ((c15.toNat : Int))) rfl rfl rfl rfl (e_index rfl rfl (i_str rfl rfl hc15)) ?_
      refine og 225 (B ((decide ((c15.toNat : Int) > 122)))) rfl rfl rfl rfl (e_bin rfl rfl rfl) ?_
      refine o 241 (B ((decide ((c15.toNat : Int) > 122)))) rfl rfl (e_pickF rfl rfl) ?_
      refine s_ops ?_
      refine run_forget [0, 18] [] [] rfl rfl rfl rfl ?_
      exact j14 _ (Option.some.inj h).symm
noncomputable def impl_IsValidName_ent : Ent := ⟨[false], entF1 (decBy str) fun s_1 => (impl_IsValidName s_1).map fun r => (B (r), [])⟩
theorem impl_IsValidName_F {s_1 : Str} {r : Bool} (h : impl_IsValidName s_1 = some r) : impl_IsValidName_ent.F [str (s_1)] = some (B (r), []) := by
  have e : impl_IsValidName_ent.F [str (s_1)] = (impl_IsValidName s_1).map fun r => (B (r), []) := by
    simp only [impl_IsValidName_ent, entF1, decS, dec_ok str_inj, Option.bind_some]
  refine Eq.trans ?_ ((congrArg (Option.map fun r => ((B (r) : V), ([] : List V))) h))
  exact e
theorem impl_IsValidName_good {G : Go.Ln.Ground} (g55 : Good Tryd.prog G 55 impl_within_ent) (g109 : Good Tryd.prog G 109 strings_Split_ent) (g90 : Good Tryd.prog G 90 slices_Contains_string_string_ent) : Good Tryd.prog G 89 impl_IsValidName_ent := by
  refine good_of_run (E := impl_IsValidName_E) (fnOf_good (by
    intro p hp
    simp only [List.mem_cons, List.not_mem_nil, or_false] at hp
    rcases hp with rfl | rfl | rfl
    · exact g55
    · exact g109
    · exact g90)) agree_mk (Checked.mixed Tryd.checked) Tryd.func89 (c := impl_IsValidName_c) (n := 1) ⟨rfl, rfl, by decide⟩ ?_
  intro vs r os h
  obtain ⟨v0, s_1, rfl, q0, h9⟩ := entI1 h
  obtain rfl := dec_of q0
  obtain ⟨r1, hr1, he⟩ := Option.map_eq_some_iff.1 h9
  cases he
  exact ⟨rfl, impl_IsValidName_run s_1 r1 hr1⟩
noncomputable def impl_isEvent_c : Code := bodyOf Tryd.f66
noncomputable def impl_isEvent_E : Env := mkE Tryd.prog [(91, impl_isDay_ent), (55, impl_within_ent), (89, impl_IsValidName_ent)]
def impl_isEvent_Q (e_1 : Event) (parties_2 : Int) (r : Bool) (st : St) : Prop := finish impl_isEvent_E Tryd.f66 [false, false] (enter Tryd.f66 [.agg [I (e_1.Day), I (e_1.Party), str (e_1.Action), I (e_1.Amount)], I (parties_2)]).1 st = some (B (r), [])
theorem impl_isEvent_run (e_1 : Event) (parties_2 : Int) (r : Bool) (h : impl_isEvent e_1 parties_2 = some r) : Run impl_isEvent_E 0 (impl_isEvent_Q e_1 parties_2 r) [.code impl_isEvent_c] (enter Tryd.f66 [.agg [I (e_1.Day), I (e_1.Party), str (e_1.Action), I (e_1.Amount)], I (parties_2)]).2 := by
  refine run_at (enter_eq (ys := [.agg [I (e_1.Day), I (e_1.Party), str (e_1.Action), I (e_1.Amount)], I (parties_2)]) (R := []) (n := 25) (l := [(0, .agg [I (e_1.Day), I (e_1.Party), str (e_1.Action), I (e_1.Amount)]), (1, I (parties_2))]) (nx := 1) rfl rfl rfl) ?_
  unfold impl_isEvent at h
  refine s_seq rfl ?_
  refine s_reg rfl ?_
  refine o 17 (.hp 1 0 [] 4 0 0) rfl rfl (e_boxP rfl rfl rfl) ?_
  refine o 33 (B (false)) rfl rfl (e_assign rfl) ?_
  refine s_ops ?_
  refine s_seq rfl ?_
  refine s_reg rfl ?_
  refine o 49 (.hp 1 0 [] 4 0 0) rfl rfl (e_fieldAddr rfl rfl rfl) ?_
  refine o 65 (I (e_1.Day)) rfl rfl (e_ld rfl rfl) ?_
  obtain ⟨r3, hr3, h⟩ := bS h
  refine o 81 (B (r3)) rfl rfl (e_callV rfl rfl (call_q rfl rfl rfl (avS (shP rfl) (avN)) (impl_isDay_F hr3) rfl rfl rfl)) ?_
  refine o 97 (B (r3)) rfl rfl (e_move rfl) ?_
  obtain ⟨y4, hy4, hy41, hy42⟩ := bJ h
  have j4 : ∀ u4, y4 = .inr u4 → Run impl_isEvent_E 0 (impl_isEvent_Q e_1 parties_2 r) (.code (cR (cR impl_isEvent_c)) :: []) ⟨mkTm .dead 25 [(4, B (u4))], mkS (rtL [] 1), 1⟩ := by
    intro u4 hu
    replace h := hy42 u4 hu
    obtain rfl := Option.some.inj h
    exact s_ret rfl (fin (vs := [B (u4)]) rfl (absE (absorb_plain rfl) (absEN)) rfl rfl)
  have r4 : ∀ r', y4 = .inl r' → ∀ st, impl_isEvent_Q e_1 parties_2 r' st → (impl_isEvent_Q e_1 parties_2 r) st := fun r' e st hq => by rw [hy41 r' e] at hq; exact hq
  replace h := hy4
  refine r_split (b := r3) 8 rfl (fun hb => ?_) (fun hb => ?_)
  · replace h := cT hb h
    refine og 113 (.hp 1 0 [] 4 0 1) rfl rfl rfl rfl (e_fieldAddr rfl rfl rfl) ?_
    refine og 129 (I (e_1.Party)) rfl rfl rfl rfl (e_ld rfl rfl) ?_
    refine og 145 (I (parties_2)) rfl rfl rfl rfl (e_move rfl) ?_
    refine og 161 (I ((w64 (parties_2 - 1)))) rfl rfl rfl rfl (e_bin rfl rfl rfl) ?_
    obtain ⟨r5, hr5, h⟩ := bS h
    refine og 177 (B (r5)) rfl rfl rfl rfl (e_callV rfl rfl (call_q rfl rfl rfl (avS (shP rfl) (avS (shP rfl) (avS (shP rfl) (avN)))) (impl_within_F hr5) rfl rfl rfl)) ?_
    refine o 193 (B (r5)) rfl rfl (e_pickT rfl rfl) ?_
    refine o 209 (B (r5)) rfl rfl (e_move rfl) ?_
    obtain ⟨y6, hy6, hy61, hy62⟩ := bL h
    have j6 : ∀ u6, y6 = .inr u6 → Run impl_isEvent_E 0 (impl_isEvent_Q e_1 parties_2 r) (.code (cR (cR impl_isEvent_c)) :: []) ⟨mkTm .dead 25 [(4, B (u6))], mkS (rtL [] 1), 1⟩ := by
      intro u6 hu
      replace h := hy62 u6 hu
      refine run_forget [4] [] [] rfl rfl rfl rfl ?_
      exact j4 _ (Option.some.inj h).symm
    have r6 : ∀ r', y6 = .inl r' → ∀ st, impl_isEvent_Q e_1 parties_2 r' st → (impl_isEvent_Q e_1 parties_2 r) st := fun r' e st hq => r4 r' (hy61 r' e) st hq
    replace h := hy6
    refine r_split (b := r5) 15 rfl (fun hb => ?_) (fun hb => ?_)
    · replace h := cT hb h
      refine og 225 (.hp 1 0 [] 4 0 2) rfl rfl rfl rfl (e_fieldAddr rfl rfl rfl) ?_
      refine og 241 (str (e_1.Action)) rfl rfl rfl rfl (e_ld rfl rfl) ?_
      obtain ⟨r7, hr7, h⟩ := bS h
      refine og 257 (B (r7)) rfl rfl rfl rfl (e_callV rfl rfl (call_q rfl rfl rfl (avS (shP rfl) (avN)) (impl_IsValidName_F hr7) rfl rfl rfl)) ?_
      refine o 273 (B (r7)) rfl rfl (e_pickT rfl rfl) ?_
      refine o 289 (B (r7)) rfl rfl (e_move rfl) ?_
      obtain ⟨y8, hy8, hy81, hy82⟩ := bL h
      have j8 : ∀ u8, y8 = .inr u8 → Run impl_isEvent_E 0 (impl_isEvent_Q e_1 parties_2 r) (.code (cR (cR impl_isEvent_c)) :: []) ⟨mkTm .dead 25 [(4, B (u8))], mkS (rtL [] 1), 1⟩ := by
        intro u8 hu
        replace h := hy82 u8 hu
        refine run_forget [4] [] [] rfl rfl rfl rfl ?_
        exact j6 _ (Option.some.inj h).symm
      have r8 : ∀ r', y8 = .inl r' → ∀ st, impl_isEvent_Q e_1 parties_2 r' st → (impl_isEvent_Q e_1 parties_2 r) st := fun r' e st hq => r6 r' (hy81 r' e) st hq
      replace h := hy8
      refine r_split (b := r7) 20 rfl (fun hb => ?_) (fun hb => ?_)
      · replace h := cT hb h
        refine og 305 (.hp 1 0 [] 4 0 3) rfl rfl rfl rfl (e_fieldAddr rfl rfl rfl) ?_
        refine og 321 (I (e_1.Amount)) rfl rfl rfl rfl (e_ld rfl rfl) ?_
        obtain ⟨r9, hr9, h⟩ := bS h
        refine og 337 (B (r9)) rfl rfl rfl rfl (e_callV rfl rfl (call_q rfl rfl rfl (avS (shP rfl) (avS (shP rfl) (avS (shP rfl) (avN)))) (impl_within_F hr9) rfl rfl rfl)) ?_
        refine o 353 (B (r9)) rfl rfl (e_pickT rfl rfl) ?_
        refine o 369 (B (r9)) rfl rfl (e_assign rfl) ?_
        refine s_ops ?_
        refine run_forget [4] [] [] rfl rfl rfl rfl ?_
        exact j8 _ (Option.some.inj h).symm
      · replace h := cF hb h
        refine os 305 rfl rfl rfl rfl ?_
        refine os 321 rfl rfl rfl rfl ?_
        refine os 337 rfl rfl rfl rfl ?_
        refine o 353 (B (false)) rfl rfl (e_pickF rfl rfl) ?_
        refine o 369 (B (false)) rfl rfl (e_assign rfl) ?_
        refine s_ops ?_
        refine run_forget [4] [] [] rfl rfl rfl rfl ?_
        exact j8 _ (Option.some.inj h).symm
    · replace h := cF hb h
      refine os 225 rfl rfl rfl rfl ?_
      refine os 241 rfl rfl rfl rfl ?_
      refine os 257 rfl rfl rfl rfl ?_
      refine o 273 (B (false)) rfl rfl (e_pickF rfl rfl) ?_
      refine o 289 (B (false)) rfl rfl (e_move rfl) ?_
      refine os 305 rfl rfl rfl rfl ?_
      refine os 321 rfl rfl rfl rfl ?_
      refine os 337 rfl rfl rfl rfl ?_
      refine o 353 (B (false)) rfl rfl (e_pickF rfl rfl) ?_
      refine o 369 (B (false)) rfl rfl (e_assign rfl) ?_
      refine s_ops ?_
      refine run_forget [4] [] [] rfl rfl rfl rfl ?_
      exact j6 _ (Option.some.inj h).symm
  · replace h := cF hb h
    refine os 113 rfl rfl rfl rfl ?_
    refine os 129 rfl rfl rfl rfl ?_
    refine os 145 rfl rfl rfl rfl ?_
    refine os 161 rfl rfl rfl rfl ?_
    refine os 177 rfl rfl rfl rfl ?_
    refine o 193 (B (false)) rfl rfl (e_pickF rfl rfl) ?_
    refine o 209 (B (false)) rfl rfl (e_move rfl) ?_
    refine os 225 rfl rfl rfl rfl ?_
    refine os 241 rfl rfl rfl rfl ?_
    refine os 257 rfl rfl rfl rfl ?_
    refine o 273 (B (false)) rfl rfl (e_pickF rfl rfl) ?_
    refine o 289 (B (false)) rfl rfl (e_move rfl) ?_
    refine os 305 rfl rfl rfl rfl ?_
    refine os 321 rfl rfl rfl rfl ?_
    refine os 337 rfl rfl rfl rfl ?_
    refine o 353 (B (false)) rfl rfl (e_pickF rfl rfl) ?_
    refine o 369 (B (false)) rfl rfl (e_assign rfl) ?_
    refine s_ops ?_
    refine run_forget [4] [] [] rfl rfl rfl rfl ?_
    exact j4 _ (Option.some.inj h).symm
noncomputable def impl_isEvent_ent : Ent := ⟨[false, false], entF2 (decBy enc_Event) (decBy I) fun e_1 parties_2 => (impl_isEvent e_1 parties_2).map fun r => (B (r), [])⟩
theorem impl_isEvent_F {e_1 : Event} {parties_2 : Int} {r : Bool} (h : impl_isEvent e_1 parties_2 = some r) : impl_isEvent_ent.F [.agg [I (e_1.Day), I (e_1.Party), str (e_1.Action), I (e_1.Amount)], I (parties_2)] = some (B (r), []) := by
  have e : impl_isEvent_ent.F [enc_Event e_1, I (parties_2)] = (impl_isEvent e_1 parties_2).map fun r => (B (r), []) := by
    simp only [impl_isEvent_ent, entF2, decS, dec_ok enc_Event_inj, dec_ok I_inj, Option.bind_some]
  refine Eq.trans ?_ ((congrArg (Option.map fun r => ((B (r) : V), ([] : List V))) h))
  exact e
theorem impl_isEvent_good {G : Go.Ln.Ground} (g91 : Good Tryd.prog G 91 impl_isDay_ent) (g55 : Good Tryd.prog G 55 impl_within_ent) (g89 : Good Tryd.prog G 89 impl_IsValidName_ent) : Good Tryd.prog G 66 impl_isEvent_ent := by
  refine good_of_run (E := impl_isEvent_E) (fnOf_good (by
    intro p hp
    simp only [List.mem_cons, List.not_mem_nil, or_false] at hp
    rcases hp with rfl | rfl | rfl
    · exact g91
    · exact g55
    · exact g89)) agree_mk (Checked.mixed Tryd.checked) Tryd.func66 (c := impl_isEvent_c) (n := 2) ⟨rfl, rfl, by decide⟩ ?_
  intro vs r os h
  obtain ⟨v0, v1, e_1, parties_2, rfl, q0, q1, h9⟩ := entI2 h
  obtain rfl := dec_of q0
  obtain rfl := dec_of q1
  obtain ⟨r1, hr1, he⟩ := Option.map_eq_some_iff.1 h9
  cases he
  exact ⟨rfl, impl_isEvent_run e_1 parties_2 r1 hr1⟩
noncomputable def impl_areEvents_1_c : Code := bodyOf Tryd.f79
noncomputable def impl_areEvents_1_E : Env := mkE Tryd.prog [(66, impl_isEvent_ent)]
def impl_areEvents_1_Q (e_1 : Event) (a_2 : Int) (r : Bool) (st : St) : Prop := finish impl_areEvents_1_E Tryd.f79 [false, false] (enter Tryd.f79 [.agg [I (e_1.Day), I (e_1.Party), str (e_1.Action), I (e_1.Amount)], .iptr (I (a_2)) 0]).1 st = some (B (r), [])
theorem impl_areEvents_1_run (e_1 : Event) (a_2 : Int) (r : Bool) (h : impl_areEvents_1 e_1 a_2 = some r) : Run impl_areEvents_1_E 0 (impl_areEvents_1_Q e_1 a_2 r) [.code impl_areEvents_1_c] (enter Tryd.f79 [.agg [I (e_1.Day), I (e_1.Party), str (e_1.Action), I (e_1.Amount)], .iptr (I (a_2)) 0]).2 := by
  refine run_at (enter_eq (ys := [.agg [I (e_1.Day), I (e_1.Party), str (e_1.Action), I (e_1.Amount)], .iptr (I (a_2)) 0]) (R := []) (n := 8) (l := [(0, .agg [I (e_1.Day), I (e_1.Party), str (e_1.Action), I (e_1.Amount)]), (1, .iptr (I (a_2)) 0)]) (nx := 1) rfl rfl rfl) ?_
  unfold impl_areEvents_1 at h
  refine s_seq rfl ?_
  refine s_reg rfl ?_
  refine o 17 (.hp 1 0 [] 4 0 0) rfl rfl (e_boxP rfl rfl rfl) ?_
  refine o 33 (B (false)) rfl rfl (e_assign rfl) ?_
  refine s_ops ?_
  refine s_seq rfl ?_
  refine s_reg rfl ?_
  refine o 49 (.agg [I (e_1.Day), I (e_1.Party), str (e_1.Action), I (e_1.Amount)]) rfl rfl (e_ld rfl rfl) ?_
  refine o 65 (I (a_2)) rfl rfl (e_ld rfl rfl) ?_
  obtain ⟨r3, hr3, h⟩ := bS h
  refine o 81 (B (r3)) rfl rfl (e_callV rfl rfl (call_q rfl rfl rfl (avS (shP rfl) (avS (shP rfl) (avN))) (impl_isEvent_F hr3) rfl rfl rfl)) ?_
  refine o 97 (B ((!r3))) rfl rfl (e_un rfl rfl) ?_
  refine o 113 (B ((!r3))) rfl rfl (e_assign rfl) ?_
  refine s_ops ?_
  obtain rfl := Option.some.inj h
  exact s_ret rfl (fin (vs := [B ((!r3))]) rfl (absE (absorb_plain rfl) (absEN)) rfl rfl)
noncomputable def impl_areEvents_1_ent : Ent := ⟨[false, false], entF2 (decBy enc_Event) (decBy fun x : Int => (.iptr (I x) 0 : V)) fun e_1 a_2 => (impl_areEvents_1 e_1 a_2).map fun r => (B (r), [])⟩
theorem impl_areEvents_1_F {e_1 : Event} {a_2 : Int} {r : Bool} (h : impl_areEvents_1 e_1 a_2 = some r) : impl_areEvents_1_ent.F [.agg [I (e_1.Day), I (e_1.Party), str (e_1.Action), I (e_1.Amount)], .iptr (I (a_2)) 0] = some (B (r), []) := by
  have e : impl_areEvents_1_ent.F [enc_Event e_1, .iptr (I a_2) 0] = (impl_areEvents_1 e_1 a_2).map fun r => (B (r), []) := by
    simp only [impl_areEvents_1_ent, entF2, decS, dec_ok enc_Event_inj, dec_ok (iptr_inj I_inj), Option.bind_some]
  refine Eq.trans ?_ ((congrArg (Option.map fun r => ((B (r) : V), ([] : List V))) h))
  exact e
theorem impl_areEvents_1_good {G : Go.Ln.Ground} (g66 : Good Tryd.prog G 66 impl_isEvent_ent) : Good Tryd.prog G 79 impl_areEvents_1_ent := by
  refine good_of_run (E := impl_areEvents_1_E) (fnOf_good (by
    intro p hp
    simp only [List.mem_cons, List.not_mem_nil, or_false] at hp
    rcases hp with rfl
    · exact g66)) agree_mk (Checked.mixed Tryd.checked) Tryd.func79 (c := impl_areEvents_1_c) (n := 2) ⟨rfl, rfl, by decide⟩ ?_
  intro vs r os h
  obtain ⟨v0, v1, e_1, a_2, rfl, q0, q1, h9⟩ := entI2 h
  obtain rfl := dec_of q0
  obtain rfl := dec_of q1
  obtain ⟨r1, hr1, he⟩ := Option.map_eq_some_iff.1 h9
  cases he
  exact ⟨rfl, impl_areEvents_1_run e_1 a_2 r1 hr1⟩
noncomputable def slices_IndexFunc_impl_Event_impl_Event_w_impl_areEvents_1_c : Code := bodyOf Tryd.f83
noncomputable def slices_IndexFunc_impl_Event_impl_Event_w_impl_areEvents_1_E : Env := mkE Tryd.prog [(79, impl_areEvents_1_ent)]
def slices_IndexFunc_impl_Event_impl_Event_w_impl_areEvents_1_Q (s_1 : List Event) (f_2 : Int) (r : Int) (st : St) : Prop := finish slices_IndexFunc_impl_Event_impl_Event_w_impl_areEvents_1_E Tryd.f83 [false, false] (enter Tryd.f83 [.isl false ((s_1).map enc_Event), .fn 79 [.iptr (I (f_2)) 0]]).1 st = some (I (r), [])
theorem slices_IndexFunc_impl_Event_impl_Event_w_impl_areEvents_1_la_run (s_1 : List Event) (f_2 : Int)  {Q : St → Prop} {K : List It} (hK : noD K = true) {x3 : Int} {y : Int ⊕ Unit} (h : slices_IndexFunc_impl_Event_impl_Event_w_impl_areEvents_1_la s_1 f_2 x3 = some y) : (∀ r', y = .inl r' → ∀ st, slices_IndexFunc_impl_Event_impl_Event_w_impl_areEvents_1_Q s_1 f_2 r' st → Q st) → (∀ u : Unit, y = .inr u → Run slices_IndexFunc_impl_Event_impl_Event_w_impl_areEvents_1_E 0 Q K ⟨mkTm .dead 19 [], mkS (rtL [] 1), 1⟩) → Run slices_IndexFunc_impl_Event_impl_Event_w_impl_areEvents_1_E 0 Q (.code (cL (cL (cR (cL (cR slices_IndexFunc_impl_Event_impl_Event_w_impl_areEvents_1_c))))) :: .lp (cL (cL (cR (cL (cR slices_IndexFunc_impl_Event_impl_Event_w_impl_areEvents_1_c))))) :: .blk 0 :: K) ⟨mkTm .dead 19 [(0, .isl false ((s_1).map enc_Event)), (1, .fn 79 [.iptr (I (f_2)) 0]), (7, I ((len s_1))), (8, I (x3))], mkS (rtL [] 1), 1⟩ := by
  refine fix_ind (P := fun (x3 : Int) (y : Int ⊕ Unit) => (∀ r', y = .inl r' → ∀ st, slices_IndexFunc_impl_Event_impl_Event_w_impl_areEvents_1_Q s_1 f_2 r' st → Q st) → (∀ u : Unit, y = .inr u → Run slices_IndexFunc_impl_Event_impl_Event_w_impl_areEvents_1_E 0 Q K ⟨mkTm .dead 19 [], mkS (rtL [] 1), 1⟩) → Run slices_IndexFunc_impl_Event_impl_Event_w_impl_areEvents_1_E 0 Q (.code (cL (cL (cR (cL (cR slices_IndexFunc_impl_Event_impl_Event_w_impl_areEvents_1_c))))) :: .lp (cL (cL (cR (cL (cR slices_IndexFunc_impl_Event_impl_Event_w_impl_areEvents_1_c))))) :: .blk 0 :: K) ⟨mkTm .dead 19 [(0, .isl false ((s_1).map enc_Event)), (1, .fn 79 [.iptr (I (f_2)) 0]), (7, I ((len s_1))), (8, I (x3))], mkS (rtL [] 1), 1⟩) (slices_IndexFunc_impl_Event_impl_Event_w_impl_areEvents_1_la_fin s_1 f_2) ?_ h
  clear h y x3
  intro self ih x3 y h hr hn
  unfold slices_IndexFunc_impl_Event_impl_Event_w_impl_areEvents_1_la_F at h
  refine s_seq rfl ?_
  refine s_reg rfl ?_
  refine o 17 (B ((decide (x3 < (len s_1))))) rfl rfl (e_bin rfl rfl rfl) ?_
  refine s_ops ?_
  refine s_seq rfl ?_
  refine s_cond rfl rfl (fun hb => ?_) (fun hb => ?_)
  · replace h := cT hb h
    refine s_skip rfl ?_
    refine s_seq rfl ?_
    refine s_block rfl ?_
    refine s_seq rfl ?_
    refine s_reg rfl ?_
    refine o 33 (I (x3)) rfl rfl (e_move rfl) ?_
    refine o 49 (I (x3)) rfl rfl (e_assign rfl) ?_
    refine s_ops ?_
    refine s_seq rfl ?_
    refine s_reg rfl ?_
    refine o 65 (.fn 79 [.iptr (I (f_2)) 0]) rfl rfl (e_move rfl) ?_
    refine o 81 (.isl false ((s_1).map enc_Event)) rfl rfl (e_move rfl) ?_
    refine o 97 (I (x3)) rfl rfl (e_move rfl) ?_
    obtain ⟨e4, he4, h⟩ := bS h
    refine o 113 (.iptr (.agg [I (e4.Day), I (e4.Party), str (e4.Action), I (e4.Amount)]) 0) rfl rfl (e_indexAddr rfl rfl rfl (ix_islE rfl rfl rfl rfl he4)) ?_
    refine o 129 (.agg [I (e4.Day), I (e4.Party), str (e4.Action), I (e4.Amount)]) rfl rfl (e_ld rfl rfl) ?_
    obtain ⟨r5, hr5, h⟩ := bS h
    refine o 145 (B (r5)) rfl rfl (e_callV rfl rfl (call_q rfl rfl rfl (avS (shP rfl) (avS (shP rfl) (avN))) (impl_areEvents_1_F hr5) rfl rfl rfl)) ?_
    refine s_ops ?_
    refine s_cond rfl rfl (fun hb => ?_) (fun hb => ?_)
    · replace h := cT hb h
      refine s_seq rfl ?_
      refine s_reg rfl ?_
      refine o 161 (I (x3)) rfl rfl (e_move rfl) ?_
      refine o 177 (I (x3)) rfl rfl (e_assign rfl) ?_
      refine s_ops ?_
      exact s_ret rfl (hr _ (Option.some.inj h).symm _ (fin (vs := [I (x3)]) rfl (absE (absorb_plain rfl) (absEN)) rfl rfl))
    · replace h := cF hb h
      refine s_skip rfl ?_
      refine s_blk ?_
      refine s_reg rfl ?_
      refine o 161 (I ((w64 (x3 + 1)))) rfl rfl (e_bin rfl rfl rfl) ?_
      refine o 177 (I ((w64 (x3 + 1)))) rfl rfl (e_move rfl) ?_
      refine s_ops ?_
      refine s_lp ?_
      refine run_forget [0, 1, 7, 8] [] [] rfl rfl rfl rfl ?_
      exact ih _ _ h hr hn
  · replace h := cF hb h
    refine s_exit rfl rfl ?_
    refine run_forget [] [] [] rfl rfl rfl hK ?_
    exact hn _ (Option.some.inj h).symm
theorem slices_IndexFunc_impl_Event_impl_Event_w_impl_areEvents_1_run (s_1 : List Event) (f_2 : Int) (r : Int) (h : slices_IndexFunc_impl_Event_impl_Event_w_impl_areEvents_1 s_1 f_2 = some r) : Run slices_IndexFunc_impl_Event_impl_Event_w_impl_areEvents_1_E 0 (slices_IndexFunc_impl_Event_impl_Event_w_impl_areEvents_1_Q s_1 f_2 r) [.code slices_IndexFunc_impl_Event_impl_Event_w_impl_areEvents_1_c] (enter Tryd.f83 [.isl false ((s_1).map enc_Event), .fn 79 [.iptr (I (f_2)) 0]]).2 := by
  refine run_at (enter_eq (ys := [.isl false ((s_1).map enc_Event), .fn 79 [.iptr (I (f_2)) 0]]) (R := []) (n := 19) (l := [(0, .isl false ((s_1).map enc_Event)), (1, .fn 79 [.iptr (I (f_2)) 0])]) (nx := 1) rfl rfl rfl) ?_
  unfold slices_IndexFunc_impl_Event_impl_Event_w_impl_areEvents_1 at h
  refine s_seq rfl ?_
  refine s_reg rfl ?_
  refine o 17 (I (0)) rfl rfl (e_assign rfl) ?_
  refine s_ops ?_
  refine s_seq rfl ?_
  refine s_seq rfl ?_
  refine s_reg rfl ?_
  refine o 33 (.isl false ((s_1).map enc_Event)) rfl rfl (e_move rfl) ?_
  refine o 49 (I ((len s_1))) rfl rfl (e_len rfl rfl rfl (l_isl rfl)) ?_
  refine o 65 (I (0)) rfl rfl (e_move rfl) ?_
  refine s_ops ?_
  refine s_block rfl ?_
  obtain ⟨y6, hy6, hy61, hy62⟩ := bJ h
  refine s_loop rfl ?_
  refine run_forget [0, 1, 7, 8] [] [] rfl rfl rfl rfl ?_
  refine slices_IndexFunc_impl_Event_impl_Event_w_impl_areEvents_1_la_run s_1 f_2 rfl hy6 (fun r' e st hq => by rw [hy61 r' e] at hq; exact hq) (fun u6 hu => ?_)
  replace h := hy62 u6 hu
  refine s_seq rfl ?_
  refine s_reg rfl ?_
  refine o 17 (I ((-1))) rfl rfl (e_assign rfl) ?_
  refine s_ops ?_
  obtain rfl := Option.some.inj h
  exact s_ret rfl (fin (vs := [I ((-1))]) rfl (absE (absorb_plain rfl) (absEN)) rfl rfl)
noncomputable def slices_IndexFunc_impl_Event_impl_Event_w_impl_areEvents_1_ent : Ent := ⟨[false, false], entF2 (decS enc_Event) (decBy fun x : Int => (.fn 79 [.iptr (I x) 0] : V)) fun s_1 f_2 => (slices_IndexFunc_impl_Event_impl_Event_w_impl_areEvents_1 s_1 f_2).map fun r => (I (r), [])⟩
theorem slices_IndexFunc_impl_Event_impl_Event_w_impl_areEvents_1_F {s_1 : List Event} {f_2 : Int} {r : Int} (h : slices_IndexFunc_impl_Event_impl_Event_w_impl_areEvents_1 s_1 f_2 = some r) : slices_IndexFunc_impl_Event_impl_Event_w_impl_areEvents_1_ent.F [.isl false ((s_1).map enc_Event), .fn 79 [.iptr (I (f_2)) 0]] = some (I (r), []) := by
  have e : slices_IndexFunc_impl_Event_impl_Event_w_impl_areEvents_1_ent.F [.isl false ((s_1).map enc_Event), .fn 79 [.iptr (I f_2) 0]] = (slices_IndexFunc_impl_Event_impl_Event_w_impl_areEvents_1 s_1 f_2).map fun r => (I (r), []) := by
    simp only [slices_IndexFunc_impl_Event_impl_Event_w_impl_areEvents_1_ent, entF2, decS, dec_ok (isl_inj enc_Event_inj), dec_ok (fn_inj1 I_inj), Option.bind_some]
  refine Eq.trans ?_ ((congrArg (Option.map fun r => ((I (r) : V), ([] : List V))) h))
  exact e
theorem slices_IndexFunc_impl_Event_impl_Event_w_impl_areEvents_1_good {G : Go.Ln.Ground} (g79 : Good Tryd.prog G 79 impl_areEvents_1_ent) : Good Tryd.prog G 83 slices_IndexFunc_impl_Event_impl_Event_w_impl_areEvents_1_ent := by
  refine good_of_run (E := slices_IndexFunc_impl_Event_impl_Event_w_impl_areEvents_1_E) (fnOf_good (by
    intro p hp
    simp only [List.mem_cons, List.not_mem_nil, or_false] at hp
    rcases hp with rfl
    · exact g79)) agree_mk (Checked.mixed Tryd.checked) Tryd.func83 (c := slices_IndexFunc_impl_Event_impl_Event_w_impl_areEvents_1_c) (n := 2) ⟨rfl, rfl, by decide⟩ ?_
  intro vs r os h
  obtain ⟨v0, v1, s_1, f_2, rfl, q0, q1, h9⟩ := entI2 h
  obtain rfl := dec_of q0
  obtain rfl := dec_of q1
  obtain ⟨r1, hr1, he⟩ := Option.map_eq_some_iff.1 h9
  cases he
  exact ⟨rfl, slices_IndexFunc_impl_Event_impl_Event_w_impl_areEvents_1_run s_1 f_2 r1 hr1⟩
noncomputable def slices_ContainsFunc_impl_Event_impl_Event_w_impl_areEvents_1_c : Code := bodyOf Tryd.f78
noncomputable def slices_ContainsFunc_impl_Event_impl_Event_w_impl_areEvents_1_E : Env := mkE Tryd.prog [(83, slices_IndexFunc_impl_Event_impl_Event_w_impl_areEvents_1_ent)]
def slices_ContainsFunc_impl_Event_impl_Event_w_impl_areEvents_1_Q (s_1 : List Event) (f_2 : Int) (r : Bool) (st : St) : Prop := finish slices_ContainsFunc_impl_Event_impl_Event_w_impl_areEvents_1_E Tryd.f78 [false, false] (enter Tryd.f78 [.isl false ((s_1).map enc_Event), .fn 79 [.iptr (I (f_2)) 0]]).1 st = some (B (r), [])
theorem slices_ContainsFunc_impl_Event_impl_Event_w_impl_areEvents_1_run (s_1 : List Event) (f_2 : Int) (r : Bool) (h : slices_ContainsFunc_impl_Event_impl_Event_w_impl_areEvents_1 s_1 f_2 = some r) : Run slices_ContainsFunc_impl_Event_impl_Event_w_impl_areEvents_1_E 0 (slices_ContainsFunc_impl_Event_impl_Event_w_impl_areEvents_1_Q s_1 f_2 r) [.code slices_ContainsFunc_impl_Event_impl_Event_w_impl_areEvents_1_c] (enter Tryd.f78 [.isl false ((s_1).map enc_Event), .fn 79 [.iptr (I (f_2)) 0]]).2 := by
  refine run_at (enter_eq (ys := [.isl false ((s_1).map enc_Event), .fn 79 [.iptr (I (f_2)) 0]]) (R := []) (n := 9) (l := [(0, .isl false ((s_1).map enc_Event)), (1, .fn 79 [.iptr (I (f_2)) 0])]) (nx := 1) rfl rfl rfl) ?_
  unfold slices_ContainsFunc_impl_Event_impl_Event_w_impl_areEvents_1 at h
  refine s_seq rfl ?_
  refine s_reg rfl ?_
  refine o 17 (B (false)) rfl rfl (e_assign rfl) ?_
  refine s_ops ?_
  refine s_seq rfl ?_
  refine s_reg rfl ?_
  refine o 33 (.isl false ((s_1).map enc_Event)) rfl rfl (e_move rfl) ?_
  refine o 49 (.fn 79 [.iptr (I (f_2)) 0]) rfl rfl (e_move rfl) ?_
  obtain ⟨r3, hr3, h⟩ := bS h
  refine o 65 (I (r3)) rfl rfl (e_callV rfl rfl (call_q rfl rfl rfl (avS (shP rfl) (avS (shF (shC (sh_p rfl) (shN))) (avN))) (slices_IndexFunc_impl_Event_impl_Event_w_impl_areEvents_1_F hr3) rfl rfl rfl)) ?_
  refine o 81 (B ((decide (r3 ≥ 0)))) rfl rfl (e_bin rfl rfl rfl) ?_
  refine o 97 (B ((decide (r3 ≥ 0)))) rfl rfl (e_assign rfl) ?_
  refine s_ops ?_
  obtain rfl := Option.some.inj h
  exact s_ret rfl (fin (vs := [B ((decide (r3 ≥ 0)))]) rfl (absE (absorb_plain rfl) (absEN)) rfl rfl)
noncomputable def slices_ContainsFunc_impl_Event_impl_Event_w_impl_areEvents_1_ent : Ent := ⟨[false, false], entF2 (decS enc_Event) (decBy fun x : Int => (.fn 79 [.iptr (I x) 0] : V)) fun s_1 f_2 => (slices_ContainsFunc_impl_Event_impl_Event_w_impl_areEvents_1 s_1 f_2).map fun r => (B (r), [])⟩
theorem slices_ContainsFunc_impl_Event_impl_Event_w_impl_areEvents_1_F {s_1 : List Event} {f_2 : Int} {r : Bool} (h : slices_ContainsFunc_impl_Event_impl_Event_w_impl_areEvents_1 s_1 f_2 = some r) : slices_ContainsFunc_impl_Event_impl_Event_w_impl_areEvents_1_ent.F [.isl false ((s_1).map enc_Event), .fn 79 [.iptr (I (f_2)) 0]] = some (B (r), []) := by
  have e : slices_ContainsFunc_impl_Event_impl_Event_w_impl_areEvents_1_ent.F [.isl false ((s_1).map enc_Event), .fn 79 [.iptr (I f_2) 0]] = (slices_ContainsFunc_impl_Event_impl_Event_w_impl_areEvents_1 s_1 f_2).map fun r => (B (r), []) := by
    simp only [slices_ContainsFunc_impl_Event_impl_Event_w_impl_areEvents_1_ent, entF2, decS, dec_ok (isl_inj enc_Event_inj), dec_ok (fn_inj1 I_inj), Option.bind_some]
  refine Eq.trans ?_ ((congrArg (Option.map fun r => ((B (r) : V), ([] : List V))) h))
  exact e
theorem slices_ContainsFunc_impl_Event_impl_Event_w_impl_areEvents_1_good {G : Go.Ln.Ground} (g83 : Good Tryd.prog G 83 slices_IndexFunc_impl_Event_impl_Event_w_impl_areEvents_1_ent) : Good Tryd.prog G 78 slices_ContainsFunc_impl_Event_impl_Event_w_impl_areEvents_1_ent := by
  refine good_of_run (E := slices_ContainsFunc_impl_Event_impl_Event_w_impl_areEvents_1_E) (fnOf_good (by
    intro p hp
    simp only [List.mem_cons, List.not_mem_nil, or_false] at hp
    rcases hp with rfl
    · exact g83)) agree_mk (Checked.mixed Tryd.checked) Tryd.func78 (c := slices_ContainsFunc_impl_Event_impl_Event_w_impl_areEvents_1_c) (n := 2) ⟨rfl, rfl, by decide⟩ ?_
  intro vs r os h
  obtain ⟨v0, v1, s_1, f_2, rfl, q0, q1, h9⟩ := entI2 h
  obtain rfl := dec_of q0
  obtain rfl := dec_of q1
  obtain ⟨r1, hr1, he⟩ := Option.map_eq_some_iff.1 h9
  cases he
  exact ⟨rfl, slices_ContainsFunc_impl_Event_impl_Event_w_impl_areEvents_1_run s_1 f_2 r1 hr1⟩
noncomputable def impl_areEvents_c : Code := bodyOf Tryd.f50
noncomputable def impl_areEvents_E : Env := mkE Tryd.prog [(55, impl_within_ent), (78, slices_ContainsFunc_impl_Event_impl_Event_w_impl_areEvents_1_ent)]
def impl_areEvents_Q (list_1 : List Event) (parties_2 : Int) (r : Bool) (st : St) : Prop := finish impl_areEvents_E Tryd.f50 [false, false] (enter Tryd.f50 [.isl false ((list_1).map enc_Event), I (parties_2)]).1 st = some (B (r), [])
theorem impl_areEvents_run (list_1 : List Event) (parties_2 : Int) (r : Bool) (h : impl_areEvents list_1 parties_2 = some r) : Run impl_areEvents_E 0 (impl_areEvents_Q list_1 parties_2 r) [.code impl_areEvents_c] (enter Tryd.f50 [.isl false ((list_1).map enc_Event), I (parties_2)]).2 := by
  refine run_at (enter_eq (ys := [.isl false ((list_1).map enc_Event), I (parties_2)]) (R := []) (n := 18) (l := [(0, .isl false ((list_1).map enc_Event)), (1, I (parties_2))]) (nx := 1) rfl rfl rfl) ?_
  unfold impl_areEvents at h
  refine s_seq rfl ?_
  refine s_reg rfl ?_
  refine o 17 (.hp 1 0 [] 1 0 0) rfl rfl (e_boxP rfl rfl rfl) ?_
  refine o 33 (B (false)) rfl rfl (e_assign rfl) ?_
  refine s_ops ?_
  refine s_seq rfl ?_
  refine s_reg rfl ?_
  refine o 49 (I (parties_2)) rfl rfl (e_ld rfl rfl) ?_
  obtain ⟨r3, hr3, h⟩ := bS h
  refine o 65 (B (r3)) rfl rfl (e_callV rfl rfl (call_q rfl rfl rfl (avS (shP rfl) (avS (shP rfl) (avS (shP rfl) (avN)))) (impl_within_F hr3) rfl rfl rfl)) ?_
  refine o 81 (B (r3)) rfl rfl (e_move rfl) ?_
  obtain ⟨y4, hy4, hy41, hy42⟩ := bJ h
  have j4 : ∀ u4, y4 = .inr u4 → Run impl_areEvents_E 0 (impl_areEvents_Q list_1 parties_2 r) (.code (cR (cR impl_areEvents_c)) :: []) ⟨mkTm .dead 18 [(4, B (u4))], mkS (rtL [] 1), 1⟩ := by
    intro u4 hu
    replace h := hy42 u4 hu
    obtain rfl := Option.some.inj h
    exact s_ret rfl (fin (vs := [B (u4)]) rfl (absE (absorb_plain rfl) (absEN)) rfl rfl)
  have r4 : ∀ r', y4 = .inl r' → ∀ st, impl_areEvents_Q list_1 parties_2 r' st → (impl_areEvents_Q list_1 parties_2 r) st := fun r' e st hq => by rw [hy41 r' e] at hq; exact hq
  replace h := hy4
  refine r_split (b := r3) 7 rfl (fun hb => ?_) (fun hb => ?_)
  · replace h := cT hb h
    refine og 97 (.isl false ((list_1).map enc_Event)) rfl rfl rfl rfl (e_move rfl) ?_
    refine og 113 (I ((len list_1))) rfl rfl rfl rfl (e_len rfl rfl rfl (l_isl rfl)) ?_
    refine og 129 (B ((decide ((len list_1) ≤ 40)))) rfl rfl rfl rfl (e_bin rfl rfl rfl) ?_
    refine o 145 (B ((decide ((len list_1) ≤ 40)))) rfl rfl (e_pickT rfl rfl) ?_
    refine o 161 (B ((decide ((len list_1) ≤ 40)))) rfl rfl (e_move rfl) ?_
    obtain ⟨y5, hy5, hy51, hy52⟩ := bL h
    have j5 : ∀ u5, y5 = .inr u5 → Run impl_areEvents_E 0 (impl_areEvents_Q list_1 parties_2 r) (.code (cR (cR impl_areEvents_c)) :: []) ⟨mkTm .dead 18 [(4, B (u5))], mkS (rtL [] 1), 1⟩ := by
      intro u5 hu
      replace h := hy52 u5 hu
      refine run_forget [4] [] [] rfl rfl rfl rfl ?_
      exact j4 _ (Option.some.inj h).symm
    have r5 : ∀ r', y5 = .inl r' → ∀ st, impl_areEvents_Q list_1 parties_2 r' st → (impl_areEvents_Q list_1 parties_2 r) st := fun r' e st hq => r4 r' (hy51 r' e) st hq
    replace h := hy5
    refine r_split (b := (decide ((len list_1) ≤ 40))) 12 rfl (fun hb => ?_) (fun hb => ?_)
    · replace h := cT hb h
      refine og 177 (.isl false ((list_1).map enc_Event)) rfl rfl rfl rfl (e_move rfl) ?_
      refine og 193 (.fn 79 [.hp 1 0 [] 1 0 0]) rfl rfl rfl rfl (e_func rfl rfl rfl) ?_
      obtain ⟨r6, hr6, h⟩ := bS h
      refine og 209 (B (r6)) rfl rfl rfl rfl (e_callV rfl rfl (call_q rfl rfl rfl (avS (shP rfl) (avS (shF (shC (shp_at (path := []) rfl rfl (ra_n) rfl (rfl)) (shN))) (avN))) (slices_ContainsFunc_impl_Event_impl_Event_w_impl_areEvents_1_F hr6) rfl rfl rfl)) ?_
      refine og 225 (B ((!r6))) rfl rfl rfl rfl (e_un rfl rfl) ?_
      refine o 241 (B ((!r6))) rfl rfl (e_pickT rfl rfl) ?_
      refine o 257 (B ((!r6))) rfl rfl (e_assign rfl) ?_
      refine s_ops ?_
      refine run_forget [4] [] [] rfl rfl rfl rfl ?_
      exact j5 _ (Option.some.inj h).symm
    · replace h := cF hb h
      refine os 177 rfl rfl rfl rfl ?_
      refine os 193 rfl rfl rfl rfl ?_
      refine os 209 rfl rfl rfl rfl ?_
      refine os 225 rfl rfl rfl rfl ?_
      refine o 241 (B (false)) rfl rfl (e_pickF rfl rfl) ?_
      refine o 257 (B (false)) rfl rfl (e_assign rfl) ?_
      refine s_ops ?_
      refine run_forget [4] [] [] rfl rfl rfl rfl ?_
      exact j5 _ (Option.some.inj h).symm
  · replace h := cF hb h
    refine os 97 rfl rfl rfl rfl ?_
    refine os 113 rfl rfl rfl rfl ?_
    refine os 129 rfl rfl rfl rfl ?_
    refine o 145 (B (false)) rfl rfl (e_pickF rfl rfl) ?_
    refine o 161 (B (false)) rfl rfl (e_move rfl) ?_
    refine os 177 rfl rfl rfl rfl ?_
    refine os 193 rfl rfl rfl rfl ?_
    refine os 209 rfl rfl rfl rfl ?_
    refine os 225 rfl rfl rfl rfl ?_
    refine o 241 (B (false)) rfl rfl (e_pickF rfl rfl) ?_
    refine o 257 (B (false)) rfl rfl (e_assign rfl) ?_
    refine s_ops ?_
    refine run_forget [4] [] [] rfl rfl rfl rfl ?_
    exact j4 _ (Option.some.inj h).symm
noncomputable def impl_areEvents_ent : Ent := ⟨[false, false], entF2 (decS enc_Event) (decBy I) fun list_1 parties_2 => (impl_areEvents list_1 parties_2).map fun r => (B (r), [])⟩
theorem impl_areEvents_F {list_1 : List Event} {parties_2 : Int} {r : Bool} (h : impl_areEvents list_1 parties_2 = some r) : impl_areEvents_ent.F [.isl false ((list_1).map enc_Event), I (parties_2)] = some (B (r), []) := by
  have e : impl_areEvents_ent.F [.isl false ((list_1).map enc_Event), I (parties_2)] = (impl_areEvents list_1 parties_2).map fun r => (B (r), []) := by
    simp only [impl_areEvents_ent, entF2, decS, dec_ok (isl_inj enc_Event_inj), dec_ok I_inj, Option.bind_some]
  refine Eq.trans ?_ ((congrArg (Option.map fun r => ((B (r) : V), ([] : List V))) h))
  exact e
theorem impl_areEvents_good {G : Go.Ln.Ground} (g55 : Good Tryd.prog G 55 impl_within_ent) (g78 : Good Tryd.prog G 78 slices_ContainsFunc_impl_Event_impl_Event_w_impl_areEvents_1_ent) : Good Tryd.prog G 50 impl_areEvents_ent := by
  refine good_of_run (E := impl_areEvents_E) (fnOf_good (by
    intro p hp
    simp only [List.mem_cons, List.not_mem_nil, or_false] at hp
    rcases hp with rfl | rfl
    · exact g55
    · exact g78)) agree_mk (Checked.mixed Tryd.checked) Tryd.func50 (c := impl_areEvents_c) (n := 2) ⟨rfl, rfl, by decide⟩ ?_
  intro vs r os h
  obtain ⟨v0, v1, list_1, parties_2, rfl, q0, q1, h9⟩ := entI2 h
  obtain rfl := dec_of q0
  obtain rfl := dec_of q1
  obtain ⟨r1, hr1, he⟩ := Option.map_eq_some_iff.1 h9
  cases he
  exact ⟨rfl, impl_areEvents_run list_1 parties_2 r1 hr1⟩
noncomputable def cmp_isNaN_int_c : Code := bodyOf Tryd.f102
noncomputable def cmp_isNaN_int_E : Env := mkE Tryd.prog []
def cmp_isNaN_int_Q (x_1 : Int) (r : Bool) (st : St) : Prop := finish cmp_isNaN_int_E Tryd.f102 [false] (enter Tryd.f102 [I (x_1)]).1 st = some (B (r), [])
theorem cmp_isNaN_int_run (x_1 : Int) (r : Bool) (h : cmp_isNaN_int x_1 = some r) : Run cmp_isNaN_int_E 0 (cmp_isNaN_int_Q x_1 r) [.code cmp_isNaN_int_c] (enter Tryd.f102 [I (x_1)]).2 := by
  refine run_at (enter_eq (ys := [I (x_1)]) (R := []) (n := 6) (l := [(0, I (x_1))]) (nx := 1) rfl rfl rfl) ?_
  unfold cmp_isNaN_int at h
  refine s_seq rfl ?_
  refine s_reg rfl ?_
  refine o 17 (B (false)) rfl rfl (e_assign rfl) ?_
  refine s_ops ?_
  refine s_seq rfl ?_
  refine s_reg rfl ?_
  refine o 33 (I (x_1)) rfl rfl (e_move rfl) ?_
  refine o 49 (I (x_1)) rfl rfl (e_move rfl) ?_
  refine o 65 (B ((x_1 != x_1))) rfl rfl (e_bin rfl rfl rfl) ?_
  refine o 81 (B ((x_1 != x_1))) rfl rfl (e_assign rfl) ?_
  refine s_ops ?_
  obtain rfl := Option.some.inj h
  exact s_ret rfl (fin (vs := [B ((x_1 != x_1))]) rfl (absE (absorb_plain rfl) (absEN)) rfl rfl)
noncomputable def cmp_isNaN_int_ent : Ent := ⟨[false], entF1 (decBy I) fun x_1 => (cmp_isNaN_int x_1).map fun r => (B (r), [])⟩
theorem cmp_isNaN_int_F {x_1 : Int} {r : Bool} (h : cmp_isNaN_int x_1 = some r) : cmp_isNaN_int_ent.F [I (x_1)] = some (B (r), []) := by
  have e : cmp_isNaN_int_ent.F [I (x_1)] = (cmp_isNaN_int x_1).map fun r => (B (r), []) := by
    simp only [cmp_isNaN_int_ent, entF1, decS, dec_ok I_inj, Option.bind_some]
  refine Eq.trans ?_ ((congrArg (Option.map fun r => ((B (r) : V), ([] : List V))) h))
  exact e
theorem cmp_isNaN_int_good {G : Go.Ln.Ground} : Good Tryd.prog G 102 cmp_isNaN_int_ent := by
  refine good_of_run (E := cmp_isNaN_int_E) (fnOf_good (by simp)) agree_mk (Checked.mixed Tryd.checked) Tryd.func102 (c := cmp_isNaN_int_c) (n := 1) ⟨rfl, rfl, by decide⟩ ?_
  intro vs r os h
  obtain ⟨v0, x_1, rfl, q0, h9⟩ := entI1 h
  obtain rfl := dec_of q0
  obtain ⟨r1, hr1, he⟩ := Option.map_eq_some_iff.1 h9
  cases he
  exact ⟨rfl, cmp_isNaN_int_run x_1 r1 hr1⟩
noncomputable def cmp_Compare_int_c : Code := bodyOf Tryd.f81
noncomputable def cmp_Compare_int_E : Env := mkE Tryd.prog [(102, cmp_isNaN_int_ent)]
def cmp_Compare_int_Q (x_1 : Int) (y_2 : Int) (r : Int) (st : St) : Prop := finish cmp_Compare_int_E Tryd.f81 [false, false] (enter Tryd.f81 [I (x_1), I (y_2)]).1 st = some (I (r), [])
theorem cmp_Compare_int_run (x_1 : Int) (y_2 : Int) (r : Int) (h : cmp_Compare_int x_1 y_2 = some r) : Run cmp_Compare_int_E 0 (cmp_Compare_int_Q x_1 y_2 r) [.code cmp_Compare_int_c] (enter Tryd.f81 [I (x_1), I (y_2)]).2 := by
  refine run_at (enter_eq (ys := [I (x_1), I (y_2)]) (R := []) (n := 20) (l := [(0, I (x_1)), (1, I (y_2))]) (nx := 1) rfl rfl rfl) ?_
  unfold cmp_Compare_int at h
  refine s_seq rfl ?_
  refine s_reg rfl ?_
  refine o 17 (I (0)) rfl rfl (e_assign rfl) ?_
  refine s_ops ?_
  refine s_seq rfl ?_
  refine s_reg rfl ?_
  refine o 33 (I (x_1)) rfl rfl (e_move rfl) ?_
  obtain ⟨r3, hr3, h⟩ := bS h
  refine o 49 (B (r3)) rfl rfl (e_callV rfl rfl (call_q rfl rfl rfl (avS (shP rfl) (avN)) (cmp_isNaN_int_F hr3) rfl rfl rfl)) ?_
  refine o 65 (B (r3)) rfl rfl (e_assign rfl) ?_
  refine s_ops ?_
  refine s_seq rfl ?_
  refine s_reg rfl ?_
  refine o 81 (I (y_2)) rfl rfl (e_move rfl) ?_
  obtain ⟨r4, hr4, h⟩ := bS h
  refine o 97 (B (r4)) rfl rfl (e_callV rfl rfl (call_q rfl rfl rfl (avS (shP rfl) (avN)) (cmp_isNaN_int_F hr4) rfl rfl rfl)) ?_
  refine o 113 (B (r4)) rfl rfl (e_assign rfl) ?_
  refine s_ops ?_
  refine s_seq rfl ?_
  refine s_seq rfl ?_
  refine s_reg rfl ?_
  refine o 129 (B (r3)) rfl rfl (e_move rfl) ?_
  refine s_ops ?_
  refine s_cond rfl rfl (fun hb => ?_) (fun hb => ?_)
  · replace h := cT hb h
    refine s_seq rfl ?_
    refine s_seq rfl ?_
    refine s_reg rfl ?_
    refine o 145 (B (r4)) rfl rfl (e_move rfl) ?_
    refine s_ops ?_
    refine s_cond rfl rfl (fun hb => ?_) (fun hb => ?_)
    · replace h := cT hb h
      refine s_seq rfl ?_
      refine s_reg rfl ?_
      refine o 161 (I (0)) rfl rfl (e_assign rfl) ?_
      refine s_ops ?_
      obtain rfl := Option.some.inj h
      exact s_ret rfl (fin (vs := [I (0)]) rfl (absE (absorb_plain rfl) (absEN)) rfl rfl)
    · replace h := cF hb h
      refine s_skip rfl ?_
      refine s_seq rfl ?_
      refine s_reg rfl ?_
      refine o 161 (I ((-1))) rfl rfl (e_assign rfl) ?_
      refine s_ops ?_
      obtain rfl := Option.some.inj h
      exact s_ret rfl (fin (vs := [I ((-1))]) rfl (absE (absorb_plain rfl) (absEN)) rfl rfl)
  · replace h := cF hb h
    refine s_skip rfl ?_
    refine s_seq rfl ?_
    refine s_seq rfl ?_
    refine s_reg rfl ?_
    refine o 145 (B (r4)) rfl rfl (e_move rfl) ?_
    refine s_ops ?_
    refine s_cond rfl rfl (fun hb => ?_) (fun hb => ?_)
    · replace h := cT hb h
      refine s_seq rfl ?_
      refine s_reg rfl ?_
      refine o 161 (I (1)) rfl rfl (e_assign rfl) ?_
      refine s_ops ?_
      obtain rfl := Option.some.inj h
      exact s_ret rfl (fin (vs := [I (1)]) rfl (absE (absorb_plain rfl) (absEN)) rfl rfl)
    · replace h := cF hb h
      refine s_skip rfl ?_
      refine s_seq rfl ?_
      refine s_seq rfl ?_
      refine s_reg rfl ?_
      refine o 161 (I (x_1)) rfl rfl (e_move rfl) ?_
      refine o 177 (I (y_2)) rfl rfl (e_move rfl) ?_
      refine o 193 (B ((decide (x_1 < y_2)))) rfl rfl (e_bin rfl rfl rfl) ?_
      refine s_ops ?_
      refine s_cond rfl rfl (fun hb => ?_) (fun hb => ?_)
      · replace h := cT hb h
        refine s_seq rfl ?_
        refine s_reg rfl ?_
        refine o 209 (I ((-1))) rfl rfl (e_assign rfl) ?_
        refine s_ops ?_
        obtain rfl := Option.some.inj h
        exact s_ret rfl (fin (vs := [I ((-1))]) rfl (absE (absorb_plain rfl) (absEN)) rfl rfl)
      · replace h := cF hb h
        refine s_skip rfl ?_
        refine s_seq rfl ?_
        refine s_seq rfl ?_
        refine s_reg rfl ?_
        refine o 209 (I (x_1)) rfl rfl (e_move rfl) ?_
        refine o 225 (I (y_2)) rfl rfl (e_move rfl) ?_
        refine o 241 (B ((decide (x_1 > y_2)))) rfl rfl (e_bin rfl rfl rfl) ?_
        refine s_ops ?_
        refine s_cond rfl rfl (fun hb => ?_) (fun hb => ?_)
        · replace h := cT hb h
          refine s_seq rfl ?_
          refine s_reg rfl ?_
          refine o 257 (I (1)) rfl rfl (e_assign rfl) ?_
          refine s_ops ?_
          obtain rfl := Option.some.inj h
          exact s_ret rfl (fin (vs := [I (1)]) rfl (absE (absorb_plain rfl) (absEN)) rfl rfl)
        · replace h := cF hb h
          refine s_skip rfl ?_
          refine s_seq rfl ?_
          refine s_reg rfl ?_
          refine o 257 (I (0)) rfl rfl (e_assign rfl) ?_
          refine s_ops ?_
          obtain rfl := Option.some.inj h
          exact s_ret rfl (fin (vs := [I (0)]) rfl (absE (absorb_plain rfl) (absEN)) rfl rfl)
noncomputable def cmp_Compare_int_ent : Ent := ⟨[false, false], entF2 (decBy I) (decBy I) fun x_1 y_2 => (cmp_Compare_int x_1 y_2).map fun r => (I (r), [])⟩
theorem cmp_Compare_int_F {x_1 : Int} {y_2 : Int} {r : Int} (h : cmp_Compare_int x_1 y_2 = some r) : cmp_Compare_int_ent.F [I (x_1), I (y_2)] = some (I (r), []) := by
  have e : cmp_Compare_int_ent.F [I (x_1), I (y_2)] = (cmp_Compare_int x_1 y_2).map fun r => (I (r), []) := by
    simp only [cmp_Compare_int_ent, entF2, decS, dec_ok I_inj, dec_ok I_inj, Option.bind_some]
  refine Eq.trans ?_ ((congrArg (Option.map fun r => ((I (r) : V), ([] : List V))) h))
  exact e
theorem cmp_Compare_int_good {G : Go.Ln.Ground} (g102 : Good Tryd.prog G 102 cmp_isNaN_int_ent) : Good Tryd.prog G 81 cmp_Compare_int_ent := by
  refine good_of_run (E := cmp_Compare_int_E) (fnOf_good (by
    intro p hp
    simp only [List.mem_cons, List.not_mem_nil, or_false] at hp
    rcases hp with rfl
    · exact g102)) agree_mk (Checked.mixed Tryd.checked) Tryd.func81 (c := cmp_Compare_int_c) (n := 2) ⟨rfl, rfl, by decide⟩ ?_
  intro vs r os h
  obtain ⟨v0, v1, x_1, y_2, rfl, q0, q1, h9⟩ := entI2 h
  obtain rfl := dec_of q0
  obtain rfl := dec_of q1
  obtain ⟨r1, hr1, he⟩ := Option.map_eq_some_iff.1 h9
  cases he
  exact ⟨rfl, cmp_Compare_int_run x_1 y_2 r1 hr1⟩
noncomputable def cmp_isNaN_string_c : Code := bodyOf Tryd.f103
noncomputable def cmp_isNaN_string_E : Env := mkE Tryd.prog []
def cmp_isNaN_string_Q (x_1 : Str) (r : Bool) (st : St) : Prop := finish cmp_isNaN_string_E Tryd.f103 [false] (enter Tryd.f103 [str (x_1)]).1 st = some (B (r), [])
theorem cmp_isNaN_string_run (x_1 : Str) (r : Bool) (h : cmp_isNaN_string x_1 = some r) : Run cmp_isNaN_string_E 0 (cmp_isNaN_string_Q x_1 r) [.code cmp_isNaN_string_c] (enter Tryd.f103 [str (x_1)]).2 := by
  refine run_at (enter_eq (ys := [str (x_1)]) (R := []) (n := 6) (l := [(0, str (x_1))]) (nx := 1) rfl rfl rfl) ?_
  unfold cmp_isNaN_string at h
  refine s_seq rfl ?_
  refine s_reg rfl ?_
  refine o 17 (B (false)) rfl rfl (e_assign rfl) ?_
  refine s_ops ?_
  refine s_seq rfl ?_
  refine s_reg rfl ?_
  refine o 33 (str (x_1)) rfl rfl (e_move rfl) ?_
  refine o 49 (str (x_1)) rfl rfl (e_move rfl) ?_
  refine o 65 (B ((!(x_1 == x_1)))) rfl rfl (e_bin rfl rfl b_strne) ?_
  refine o 81 (B ((!(x_1 == x_1)))) rfl rfl (e_assign rfl) ?_
  refine s_ops ?_
  obtain rfl := Option.some.inj h
  exact s_ret rfl (fin (vs := [B ((!(x_1 == x_1)))]) rfl (absE (absorb_plain rfl) (absEN)) rfl rfl)
noncomputable def cmp_isNaN_string_ent : Ent := ⟨[false], entF1 (decBy str) fun x_1 => (cmp_isNaN_string x_1).map fun r => (B (r), [])⟩
theorem cmp_isNaN_string_F {x_1 : Str} {r : Bool} (h : cmp_isNaN_string x_1 = some r) : cmp_isNaN_string_ent.F [str (x_1)] = some (B (r), []) := by
  have e : cmp_isNaN_string_ent.F [str (x_1)] = (cmp_isNaN_string x_1).map fun r => (B (r), []) := by
    simp only [cmp_isNaN_string_ent, entF1, decS, dec_ok str_inj, Option.bind_some]
  refine Eq.trans ?_ ((congrArg (Option.map fun r => ((B (r) : V), ([] : List V))) h))
  exact e
theorem cmp_isNaN_string_good {G : Go.Ln.Ground} : Good Tryd.prog G 103 cmp_isNaN_string_ent := by
  refine good_of_run (E := cmp_isNaN_string_E) (fnOf_good (by simp)) agree_mk (Checked.mixed Tryd.checked) Tryd.func103 (c := cmp_isNaN_string_c) (n := 1) ⟨rfl, rfl, by decide⟩ ?_
  intro vs r os h
  obtain ⟨v0, x_1, rfl, q0, h9⟩ := entI1 h
  obtain rfl := dec_of q0
  obtain ⟨r1, hr1, he⟩ := Option.map_eq_some_iff.1 h9
  cases he
  exact ⟨rfl, cmp_isNaN_string_run x_1 r1 hr1⟩
noncomputable def cmp_Compare_string_c : Code := bodyOf Tryd.f82
noncomputable def cmp_Compare_string_E : Env := mkE Tryd.prog [(103, cmp_isNaN_string_ent)]
def cmp_Compare_string_Q (x_1 : Str) (y_2 : Str) (r : Int) (st : St) : Prop := finish cmp_Compare_string_E Tryd.f82 [false, false] (enter Tryd.f82 [str (x_1), str (y_2)]).1 st = some (I (r), [])
theorem cmp_Compare_string_run (x_1 : Str) (y_2 : Str) (r : Int) (h : cmp_Compare_string x_1 y_2 = some r) : Run cmp_Compare_string_E 0 (cmp_Compare_string_Q x_1 y_2 r) [.code cmp_Compare_string_c] (enter Tryd.f82 [str (x_1), str (y_2)]).2 := by
  refine run_at (enter_eq (ys := [str (x_1), str (y_2)]) (R := []) (n := 20) (l := [(0, str (x_1)), (1, str (y_2))]) (nx := 1) rfl rfl rfl) ?_
  unfold cmp_Compare_string at h
  refine s_seq rfl ?_
  refine s_reg rfl ?_
  refine o 17 (I (0)) rfl rfl (e_assign rfl) ?_
  refine s_ops ?_
  refine s_seq rfl ?_
  refine s_reg rfl ?_
  refine o 33 (str (x_1)) rfl rfl (e_move rfl) ?_
  obtain ⟨r3, hr3, h⟩ := bS h
  refine o 49 (B (r3)) rfl rfl (e_callV rfl rfl (call_q rfl rfl rfl (avS (shP rfl) (avN)) (cmp_isNaN_string_F hr3) rfl rfl rfl)) ?_
  refine o 65 (B (r3)) rfl rfl (e_assign rfl) ?_
  refine s_ops ?_
  refine s_seq rfl ?_
  refine s_reg rfl ?_
  refine o 81 (str (y_2)) rfl rfl (e_move rfl) ?_
  obtain ⟨r4, hr4, h⟩ := bS h
  refine o 97 (B (r4)) rfl rfl (e_callV rfl rfl (call_q rfl rfl rfl (avS (shP rfl) (avN)) (cmp_isNaN_string_F hr4) rfl rfl rfl)) ?_
  refine o 113 (B (r4)) rfl rfl (e_assign rfl) ?_
  refine s_ops ?_
  refine s_seq rfl ?_
  refine s_seq rfl ?_
  refine s_reg rfl ?_
  refine o 129 (B (r3)) rfl rfl (e_move rfl) ?_
  refine s_ops ?_
  refine s_cond rfl rfl (fun hb => ?_) (fun hb => ?_)
  · replace h := cT hb h
    refine s_seq rfl ?_
    refine s_seq rfl ?_
    refine s_reg rfl ?_
    refine o 145 (B (r4)) rfl rfl (e_move rfl) ?_
    refine s_ops ?_
    refine s_cond rfl rfl (fun hb => ?_) (fun hb => ?_)
    · replace h := cT hb h
      refine s_seq rfl ?_
      refine s_reg rfl ?_
      refine o 161 (I (0)) rfl rfl (e_assign rfl) ?_
      refine s_ops ?_
      obtain rfl := Option.some.inj h
      exact s_ret rfl (fin (vs := [I (0)]) rfl (absE (absorb_plain rfl) (absEN)) rfl rfl)
    · replace h := cF hb h
      refine s_skip rfl ?_
      refine s_seq rfl ?_
      refine s_reg rfl ?_
      refine o 161 (I ((-1))) rfl rfl (e_assign rfl) ?_
      refine s_ops ?_
      obtain rfl := Option.some.inj h
      exact s_ret rfl (fin (vs := [I ((-1))]) rfl (absE (absorb_plain rfl) (absEN)) rfl rfl)
  · replace h := cF hb h
    refine s_skip rfl ?_
    refine s_seq rfl ?_
    refine s_seq rfl ?_
    refine s_reg rfl ?_
    refine o 145 (B (r4)) rfl rfl (e_move rfl) ?_
    refine s_ops ?_
    refine s_cond rfl rfl (fun hb => ?_) (fun hb => ?_)
    · replace h := cT hb h
      refine s_seq rfl ?_
      refine s_reg rfl ?_
      refine o 161 (I (1)) rfl rfl (e_assign rfl) ?_
      refine s_ops ?_
      obtain rfl := Option.some.inj h
      exact s_ret rfl (fin (vs := [I (1)]) rfl (absE (absorb_plain rfl) (absEN)) rfl rfl)
    · replace h := cF hb h
      refine s_skip rfl ?_
      refine s_seq rfl ?_
      refine s_seq rfl ?_
      refine s_reg rfl ?_
      refine o 161 (str (x_1)) rfl rfl (e_move rfl) ?_
      refine o 177 (str (y_2)) rfl rfl (e_move rfl) ?_
      refine o 193 (B ((Op.bytesLess x_1 y_2))) rfl rfl (e_bin rfl rfl b_strlt) ?_
      refine s_ops ?_
      refine s_cond rfl rfl (fun hb => ?_) (fun hb => ?_)
      · replace h := cT hb h
        refine s_seq rfl ?_
        refine s_reg rfl ?_
        refine o 209 (I ((-1))) rfl rfl (e_assign rfl) ?_
        refine s_ops ?_
        obtain rfl := Option.some.inj h
        exact s_ret rfl (fin (vs := [I ((-1))]) rfl (absE (absorb_plain rfl) (absEN)) rfl rfl)
      · replace h := cF hb h
        refine s_skip rfl ?_
        refine s_seq rfl ?_
        refine s_seq rfl ?_
        refine s_reg rfl ?_
        refine o 209 (str (x_1)) rfl rfl (e_move rfl) ?_
        refine o 225 (str (y_2)) rfl rfl (e_move rfl) ?_
        refine o 241 (B ((!(Op.bytesLess x_1 y_2 || x_1 == y_2)))) rfl rfl (e_bin rfl rfl b_strgt) ?_
        refine s_ops ?_
        refine s_cond rfl rfl (fun hb => ?_) (fun hb => ?_)
        · replace h := cT hb h
          refine s_seq rfl ?_
          refine s_reg rfl ?_
          refine o 257 (I (1)) rfl rfl (e_assign rfl) ?_
          refine s_ops ?_
          obtain rfl := Option.some.inj h
          exact s_ret rfl (fin (vs := [I (1)]) rfl (absE (absorb_plain rfl) (absEN)) rfl rfl)
        · replace h := cF hb h
          refine s_skip rfl ?_
          refine s_seq rfl ?_
          refine s_reg rfl ?_
          refine o 257 (I (0)) rfl rfl (e_assign rfl) ?_
          refine s_ops ?_
          obtain rfl := Option.some.inj h
          exact s_ret rfl (fin (vs := [I (0)]) rfl (absE (absorb_plain rfl) (absEN)) rfl rfl)
noncomputable def cmp_Compare_string_ent : Ent := ⟨[false, false], entF2 (decBy str) (decBy str) fun x_1 y_2 => (cmp_Compare_string x_1 y_2).map fun r => (I (r), [])⟩
theorem cmp_Compare_string_F {x_1 : Str} {y_2 : Str} {r : Int} (h : cmp_Compare_string x_1 y_2 = some r) : cmp_Compare_string_ent.F [str (x_1), str (y_2)] = some (I (r), []) := by
  have e : cmp_Compare_string_ent.F [str (x_1), str (y_2)] = (cmp_Compare_string x_1 y_2).map fun r => (I (r), []) := by
    simp only [cmp_Compare_string_ent, entF2, decS, dec_ok str_inj, dec_ok str_inj, Option.bind_some]
  refine Eq.trans ?_ ((congrArg (Option.map fun r => ((I (r) : V), ([] : List V))) h))
  exact e
theorem cmp_Compare_string_good {G : Go.Ln.Ground} (g103 : Good Tryd.prog G 103 cmp_isNaN_string_ent) : Good Tryd.prog G 82 cmp_Compare_string_ent := by
  refine good_of_run (E := cmp_Compare_string_E) (fnOf_good (by
    intro p hp
    simp only [List.mem_cons, List.not_mem_nil, or_false] at hp
    rcases hp with rfl
    · exact g103)) agree_mk (Checked.mixed Tryd.checked) Tryd.func82 (c := cmp_Compare_string_c) (n := 2) ⟨rfl, rfl, by decide⟩ ?_
  intro vs r os h
  obtain ⟨v0, v1, x_1, y_2, rfl, q0, q1, h9⟩ := entI2 h
  obtain rfl := dec_of q0
  obtain rfl := dec_of q1
  obtain ⟨r1, hr1, he⟩ := Option.map_eq_some_iff.1 h9
  cases he
  exact ⟨rfl, cmp_Compare_string_run x_1 y_2 r1 hr1⟩
noncomputable def cmp_Or_int_c : Code := bodyOf Tryd.f80
noncomputable def cmp_Or_int_E : Env := mkE Tryd.prog []
def cmp_Or_int_Q (vals_1 : List Int) (r : Int) (st : St) : Prop := finish cmp_Or_int_E Tryd.f80 [false] (enter Tryd.f80 [.isl false ((vals_1).map I)]).1 st = some (I (r), [])
theorem cmp_Or_int_la_run (vals_1 : List Int)  {Q : St → Prop} {K : List It} (hK : noD K = true) {x2 : Int} {y : Int ⊕ Unit} (h : cmp_Or_int_la vals_1 x2 = some y) : (∀ r', y = .inl r' → ∀ st, cmp_Or_int_Q vals_1 r' st → Q st) → (∀ u : Unit, y = .inr u → Run cmp_Or_int_E 0 Q K ⟨mkTm .dead 18 [(3, I (0))], mkS (rtL [] 1), 1⟩) → Run cmp_Or_int_E 0 Q (.code (cL (cL (cR (cL (cR (cR cmp_Or_int_c)))))) :: .lp (cL (cL (cR (cL (cR (cR cmp_Or_int_c)))))) :: .blk 0 :: K) ⟨mkTm .dead 18 [(3, I (0)), (6, .isl false ((vals_1).map I)), (7, I ((len vals_1))), (8, I (x2))], mkS (rtL [] 1), 1⟩ := by
  refine fix_ind (P := fun (x2 : Int) (y : Int ⊕ Unit) => (∀ r', y = .inl r' → ∀ st, cmp_Or_int_Q vals_1 r' st → Q st) → (∀ u : Unit, y = .inr u → Run cmp_Or_int_E 0 Q K ⟨mkTm .dead 18 [(3, I (0))], mkS (rtL [] 1), 1⟩) → Run cmp_Or_int_E 0 Q (.code (cL (cL (cR (cL (cR (cR cmp_Or_int_c)))))) :: .lp (cL (cL (cR (cL (cR (cR cmp_Or_int_c)))))) :: .blk 0 :: K) ⟨mkTm .dead 18 [(3, I (0)), (6, .isl false ((vals_1).map I)), (7, I ((len vals_1))), (8, I (x2))], mkS (rtL [] 1), 1⟩) (cmp_Or_int_la_fin vals_1) ?_ h
  clear h y x2
  intro self ih x2 y h hr hn
  unfold cmp_Or_int_la_F at h
  refine s_seq rfl ?_
  refine s_reg rfl ?_
  refine o 17 (B ((decide (x2 < (len vals_1))))) rfl rfl (e_bin rfl rfl rfl) ?_
  refine s_ops ?_
  refine s_seq rfl ?_
  refine s_cond rfl rfl (fun hb => ?_) (fun hb => ?_)
  · replace h := cT hb h
    refine s_skip rfl ?_
    refine s_seq rfl ?_
    refine s_block rfl ?_
    refine s_seq rfl ?_
    refine s_reg rfl ?_
    obtain ⟨e3, he3, h⟩ := bS h
    refine o 33 (.iptr (I (e3)) 0) rfl rfl (e_indexAddr rfl rfl rfl (ix_islE rfl rfl rfl rfl he3)) ?_
    refine o 49 (I (e3)) rfl rfl (e_ld rfl rfl) ?_
    refine o 65 (I (e3)) rfl rfl (e_assign rfl) ?_
    refine s_ops ?_
    refine s_seq rfl ?_
    refine s_reg rfl ?_
    refine o 81 (I (e3)) rfl rfl (e_move rfl) ?_
    refine o 97 (I (0)) rfl rfl (e_move rfl) ?_
    refine o 113 (B ((e3 != 0))) rfl rfl (e_bin rfl rfl rfl) ?_
    refine s_ops ?_
    refine s_cond rfl rfl (fun hb => ?_) (fun hb => ?_)
    · replace h := cT hb h
      refine s_seq rfl ?_
      refine s_reg rfl ?_
      refine o 129 (I (e3)) rfl rfl (e_move rfl) ?_
      refine o 145 (I (e3)) rfl rfl (e_assign rfl) ?_
      refine s_ops ?_
      exact s_ret rfl (hr _ (Option.some.inj h).symm _ (fin (vs := [I (e3)]) rfl (absE (absorb_plain rfl) (absEN)) rfl rfl))
    · replace h := cF hb h
      refine s_skip rfl ?_
      refine s_blk ?_
      refine s_reg rfl ?_
      refine o 129 (I ((w64 (x2 + 1)))) rfl rfl (e_bin rfl rfl rfl) ?_
      refine o 145 (I ((w64 (x2 + 1)))) rfl rfl (e_move rfl) ?_
      refine s_ops ?_
      refine s_lp ?_
      refine run_forget [3, 6, 7, 8] [] [] rfl rfl rfl rfl ?_
      exact ih _ _ h hr hn
  · replace h := cF hb h
    refine s_exit rfl rfl ?_
    refine run_forget [3] [] [] rfl rfl rfl hK ?_
    exact hn _ (Option.some.inj h).symm
theorem cmp_Or_int_run (vals_1 : List Int) (r : Int) (h : cmp_Or_int vals_1 = some r) : Run cmp_Or_int_E 0 (cmp_Or_int_Q vals_1 r) [.code cmp_Or_int_c] (enter Tryd.f80 [.isl false ((vals_1).map I)]).2 := by
  refine run_at (enter_eq (ys := [.isl false ((vals_1).map I)]) (R := []) (n := 18) (l := [(0, .isl false ((vals_1).map I))]) (nx := 1) rfl rfl rfl) ?_
  unfold cmp_Or_int at h
  refine s_seq rfl ?_
  refine s_reg rfl ?_
  refine o 17 (I (0)) rfl rfl (e_assign rfl) ?_
  refine s_ops ?_
  refine s_seq rfl ?_
  refine s_reg rfl ?_
  refine o 33 (I (0)) rfl rfl (e_assign rfl) ?_
  refine s_ops ?_
  refine s_seq rfl ?_
  refine s_seq rfl ?_
  refine s_reg rfl ?_
  refine o 49 (.isl false ((vals_1).map I)) rfl rfl (e_move rfl) ?_
  refine o 65 (I ((len vals_1))) rfl rfl (e_len rfl rfl rfl (l_isl rfl)) ?_
  refine o 81 (I (0)) rfl rfl (e_move rfl) ?_
  refine s_ops ?_
  refine s_block rfl ?_
  obtain ⟨y4, hy4, hy41, hy42⟩ := bJ h
  refine s_loop rfl ?_
  refine run_forget [3, 6, 7, 8] [] [] rfl rfl rfl rfl ?_
  refine cmp_Or_int_la_run vals_1 rfl hy4 (fun r' e st hq => by rw [hy41 r' e] at hq; exact hq) (fun u4 hu => ?_)
  replace h := hy42 u4 hu
  refine s_seq rfl ?_
  refine s_reg rfl ?_
  refine o 17 (I (0)) rfl rfl (e_move rfl) ?_
  refine o 33 (I (0)) rfl rfl (e_assign rfl) ?_
  refine s_ops ?_
  obtain rfl := Option.some.inj h
  exact s_ret rfl (fin (vs := [I (0)]) rfl (absE (absorb_plain rfl) (absEN)) rfl rfl)
noncomputable def cmp_Or_int_ent : Ent := ⟨[false], entF1 (decS I) fun vals_1 => (cmp_Or_int vals_1).map fun r => (I (r), [])⟩
theorem cmp_Or_int_F {vals_1 : List Int} {r : Int} (h : cmp_Or_int vals_1 = some r) : cmp_Or_int_ent.F [.isl false ((vals_1).map I)] = some (I (r), []) := by
  have e : cmp_Or_int_ent.F [.isl false ((vals_1).map I)] = (cmp_Or_int vals_1).map fun r => (I (r), []) := by
    simp only [cmp_Or_int_ent, entF1, decS, dec_ok (isl_inj I_inj), Option.bind_some]
  refine Eq.trans ?_ ((congrArg (Option.map fun r => ((I (r) : V), ([] : List V))) h))
  exact e
theorem cmp_Or_int_good {G : Go.Ln.Ground} : Good Tryd.prog G 80 cmp_Or_int_ent := by
  refine good_of_run (E := cmp_Or_int_E) (fnOf_good (by simp)) agree_mk (Checked.mixed Tryd.checked) Tryd.func80 (c := cmp_Or_int_c) (n := 1) ⟨rfl, rfl, by decide⟩ ?_
  intro vs r os h
  obtain ⟨v0, vals_1, rfl, q0, h9⟩ := entI1 h
  obtain rfl := dec_of q0
  obtain ⟨r1, hr1, he⟩ := Option.map_eq_some_iff.1 h9
  cases he
  exact ⟨rfl, cmp_Or_int_run vals_1 r1 hr1⟩
noncomputable def impl_CompareEvents_c : Code := bodyOf Tryd.f52
noncomputable def impl_CompareEvents_E : Env := mkE Tryd.prog [(81, cmp_Compare_int_ent), (82, cmp_Compare_string_ent), (80, cmp_Or_int_ent)]
def impl_CompareEvents_Q (a_1 : Event) (b_2 : Event) (r : Int) (st : St) : Prop := finish impl_CompareEvents_E Tryd.f52 [false, false] (enter Tryd.f52 [.agg [I (a_1.Day), I (a_1.Party), str (a_1.Action), I (a_1.Amount)], .agg [I (b_2.Day), I (b_2.Party), str (b_2.Action), I (b_2.Amount)]]).1 st = some (I (r), [])
theorem impl_CompareEvents_run (a_1 : Event) (b_2 : Event) (r : Int) (h : impl_CompareEvents a_1 b_2 = some r) : Run impl_CompareEvents_E 0 (impl_CompareEvents_Q a_1 b_2 r) [.code impl_CompareEvents_c] (enter Tryd.f52 [.agg [I (a_1.Day), I (a_1.Party), str (a_1.Action), I (a_1.Amount)], .agg [I (b_2.Day), I (b_2.Party), str (b_2.Action), I (b_2.Amount)]]).2 := by
  refine run_at (enter_eq (ys := [.agg [I (a_1.Day), I (a_1.Party), str (a_1.Action), I (a_1.Amount)], .agg [I (b_2.Day), I (b_2.Party), str (b_2.Action), I (b_2.Amount)]]) (R := []) (n := 27) (l := [(0, .agg [I (a_1.Day), I (a_1.Party), str (a_1.Action), I (a_1.Amount)]), (1, .agg [I (b_2.Day), I (b_2.Party), str (b_2.Action), I (b_2.Amount)])]) (nx := 1) rfl rfl rfl) ?_
  unfold impl_CompareEvents at h
  refine s_seq rfl ?_
  refine s_reg rfl ?_
  refine o 17 (.hp 1 0 [] 4 0 0) rfl rfl (e_boxP rfl rfl rfl) ?_
  refine o 33 (.hp 17 0 [] 4 0 0) rfl rfl (e_boxP rfl rfl rfl) ?_
  refine o 49 (I (0)) rfl rfl (e_assign rfl) ?_
  refine s_ops ?_
  refine s_seq rfl ?_
  refine s_draw [0, 1, 0, 4, 15, 0, 32, 0, 128, 511, 0, 1024, 0, 4096, 16383, 0, 32768, 0, 131072, 524287, 1048575, 2097151, 4194303] rfl (by decide +kernel) ?_
  refine dp [1] [] (.hp 1 0 [] 4 0 0) rfl (e_fieldAddr rfl rfl rfl) rfl (rfl) (by decide) ?_
  refine dp [1] [] (I (a_1.Day)) rfl (e_ld rfl rfl) rfl (rfl) (by decide) ?_
  refine dp [17] [] (.hp 17 0 [] 4 0 0) rfl (e_fieldAddr rfl rfl rfl) rfl (rfl) (by decide) ?_
  refine dp [17] [] (I (b_2.Day)) rfl (e_ld rfl rfl) rfl (rfl) (by decide) ?_
  obtain ⟨r3, hr3, h⟩ := bS h
  refine dp [] [] (I (r3)) rfl (e_callV rfl rfl (call_q rfl rfl rfl (avS (shP rfl) (avS (shP rfl) (avN))) (cmp_Compare_int_F hr3) rfl rfl rfl)) rfl (w_call rfl rfl rfl rfl (avS (shP rfl) (avS (shP rfl) (avN))) (cmp_Compare_int_F hr3) rfl) (by decide) ?_
  refine dp [1] [] (.hp 1 0 [] 4 0 1) rfl (e_fieldAddr rfl rfl rfl) rfl (rfl) (by decide) ?_
  refine dp [1] [] (I (a_1.Party)) rfl (e_ld rfl rfl) rfl (rfl) (by decide) ?_
  refine dp [17] [] (.hp 17 0 [] 4 0 1) rfl (e_fieldAddr rfl rfl rfl) rfl (rfl) (by decide) ?_
  refine dp [17] [] (I (b_2.Party)) rfl (e_ld rfl rfl) rfl (rfl) (by decide) ?_
  obtain ⟨r4, hr4, h⟩ := bS h
  refine dp [] [] (I (r4)) rfl (e_callV rfl rfl (call_q rfl rfl rfl (avS (shP rfl) (avS (shP rfl) (avN))) (cmp_Compare_int_F hr4) rfl rfl rfl)) rfl (w_call rfl rfl rfl rfl (avS (shP rfl) (avS (shP rfl) (avN))) (cmp_Compare_int_F hr4) rfl) (by decide) ?_
  refine dp [1] [] (.hp 1 0 [] 4 0 2) rfl (e_fieldAddr rfl rfl rfl) rfl (rfl) (by decide) ?_
  refine dp [1] [] (str (a_1.Action)) rfl (e_ld rfl rfl) rfl (rfl) (by decide) ?_
  refine dp [17] [] (.hp 17 0 [] 4 0 2) rfl (e_fieldAddr rfl rfl rfl) rfl (rfl) (by decide) ?_
  refine dp [17] [] (str (b_2.Action)) rfl (e_ld rfl rfl) rfl (rfl) (by decide) ?_
  obtain ⟨r5, hr5, h⟩ := bS h
  refine dp [] [] (I (r5)) rfl (e_callV rfl rfl (call_q rfl rfl rfl (avS (shP rfl) (avS (shP rfl) (avN))) (cmp_Compare_string_F hr5) rfl rfl rfl)) rfl (w_call rfl rfl rfl rfl (avS (shP rfl) (avS (shP rfl) (avN))) (cmp_Compare_string_F hr5) rfl) (by decide) ?_
  refine dp [1] [] (.hp 1 0 [] 4 0 3) rfl (e_fieldAddr rfl rfl rfl) rfl (rfl) (by decide) ?_
  refine dp [1] [] (I (a_1.Amount)) rfl (e_ld rfl rfl) rfl (rfl) (by decide) ?_
  refine dp [17] [] (.hp 17 0 [] 4 0 3) rfl (e_fieldAddr rfl rfl rfl) rfl (rfl) (by decide) ?_
  refine dp [17] [] (I (b_2.Amount)) rfl (e_ld rfl rfl) rfl (rfl) (by decide) ?_
  obtain ⟨r6, hr6, h⟩ := bS h
  refine dp [] [] (I (r6)) rfl (e_callV rfl rfl (call_q rfl rfl rfl (avS (shP rfl) (avS (shP rfl) (avN))) (cmp_Compare_int_F hr6) rfl rfl rfl)) rfl (w_call rfl rfl rfl rfl (avS (shP rfl) (avS (shP rfl) (avN))) (cmp_Compare_int_F hr6) rfl) (by decide) ?_
  refine dp [] [] (.hs 369 0 [] 1 0 4) rfl (e_buildSlice rfl (bs_mk (f := I) (xs := []) (z := I (0)) (es := [I (r3), I (r4), I (r5), I (r6)]) (ws := [I (r3), I (r4), I (r5), I (r6)]) rfl rfl rfl (by decide) rfl (abs_each_plain rfl) rfl)) rfl (rfl) (by decide) ?_
  obtain ⟨r7, hr7, h⟩ := bS h
  refine dp [369] [] (I (r7)) rfl (e_callV rfl rfl (call_q rfl rfl rfl (avS (sh1 rfl rfl (sh_hs (f := I) (g := I) (xs := [r3, r4, r5, r6]) rfl rfl (imms_of I_imm))) (avN)) (cmp_Or_int_F hr7) rfl rfl rfl)) rfl (w_call rfl rfl rfl rfl (avS (sh1 rfl rfl (sh_hs (f := I) (g := I) (xs := [r3, r4, r5, r6]) rfl rfl (imms_of I_imm))) (avN)) (cmp_Or_int_F hr7) rfl) (by decide) ?_
  refine dp [] [] (I (r7)) rfl (e_assign rfl) rfl (rfl) (by decide) ?_
  refine de 417 rfl rfl ?_
  obtain rfl := Option.some.inj h
  exact s_ret rfl (fin (vs := [I (r7)]) rfl (absE (absorb_plain rfl) (absEN)) rfl rfl)
noncomputable def impl_CompareEvents_ent : Ent := ⟨[false, false], entF2 (decBy enc_Event) (decBy enc_Event) fun a_1 b_2 => (impl_CompareEvents a_1 b_2).map fun r => (I (r), [])⟩
theorem impl_CompareEvents_F {a_1 : Event} {b_2 : Event} {r : Int} (h : impl_CompareEvents a_1 b_2 = some r) : impl_CompareEvents_ent.F [.agg [I (a_1.Day), I (a_1.Party), str (a_1.Action), I (a_1.Amount)], .agg [I (b_2.Day), I (b_2.Party), str (b_2.Action), I (b_2.Amount)]] = some (I (r), []) := by
  have e : impl_CompareEvents_ent.F [enc_Event a_1, enc_Event b_2] = (impl_CompareEvents a_1 b_2).map fun r => (I (r), []) := by
    simp only [impl_CompareEvents_ent, entF2, decS, dec_ok enc_Event_inj, dec_ok enc_Event_inj, Option.bind_some]
  refine Eq.trans ?_ ((congrArg (Option.map fun r => ((I (r) : V), ([] : List V))) h))
  exact e
theorem impl_CompareEvents_good {G : Go.Ln.Ground} (g81 : Good Tryd.prog G 81 cmp_Compare_int_ent) (g82 : Good Tryd.prog G 82 cmp_Compare_string_ent) (g80 : Good Tryd.prog G 80 cmp_Or_int_ent) : Good Tryd.prog G 52 impl_CompareEvents_ent := by
  refine good_of_run (E := impl_CompareEvents_E) (fnOf_good (by
    intro p hp
    simp only [List.mem_cons, List.not_mem_nil, or_false] at hp
    rcases hp with rfl | rfl | rfl
    · exact g81
    · exact g82
    · exact g80)) agree_mk (Checked.mixed Tryd.checked) Tryd.func52 (c := impl_CompareEvents_c) (n := 2) ⟨rfl, rfl, by decide⟩ ?_
  intro vs r os h
  obtain ⟨v0, v1, a_1, b_2, rfl, q0, q1, h9⟩ := entI2 h
  obtain rfl := dec_of q0
  obtain rfl := dec_of q1
  obtain ⟨r1, hr1, he⟩ := Option.map_eq_some_iff.1 h9
  cases he
  exact ⟨rfl, impl_CompareEvents_run a_1 b_2 r1 hr1⟩
noncomputable def slices_IsSortedFunc_impl_Event_impl_Event_w_impl_CompareEvents_c : Code := bodyOf Tryd.f51
noncomputable def slices_IsSortedFunc_impl_Event_impl_Event_w_impl_CompareEvents_E : Env := mkE Tryd.prog [(52, impl_CompareEvents_ent)]
def slices_IsSortedFunc_impl_Event_impl_Event_w_impl_CompareEvents_Q (x_1 : List Event) (cmp_2 : Unit) (r : Bool) (st : St) : Prop := finish slices_IsSortedFunc_impl_Event_impl_Event_w_impl_CompareEvents_E Tryd.f51 [false, false] (enter Tryd.f51 [.isl false ((x_1).map enc_Event), .fn 52 []]).1 st = some (B (r), [])
theorem slices_IsSortedFunc_impl_Event_impl_Event_w_impl_CompareEvents_la_run (x_1 : List Event) (cmp_2 : Unit)  {Q : St → Prop} {K : List It} (hK : noD K = true) {x3 : Int} {y : Bool ⊕ Unit} (h : slices_IsSortedFunc_impl_Event_impl_Event_w_impl_CompareEvents_la x_1 cmp_2 x3 = some y) : (∀ r', y = .inl r' → ∀ st, slices_IsSortedFunc_impl_Event_impl_Event_w_impl_CompareEvents_Q x_1 cmp_2 r' st → Q st) → (∀ u : Unit, y = .inr u → Run slices_IsSortedFunc_impl_Event_impl_Event_w_impl_CompareEvents_E 0 Q K ⟨mkTm .dead 25 [], mkS (rtL [] 1), 1⟩) → Run slices_IsSortedFunc_impl_Event_impl_Event_w_impl_CompareEvents_E 0 Q (.code (cL (cL (cR (cL (cR slices_IsSortedFunc_impl_Event_impl_Event_w_impl_CompareEvents_c))))) :: .lp (cL (cL (cR (cL (cR slices_IsSortedFunc_impl_Event_impl_Event_w_impl_CompareEvents_c))))) :: .blk 0 :: K) ⟨mkTm .dead 25 [(0, .isl false ((x_1).map enc_Event)), (1, .fn 52 []), (5, I (x3))], mkS (rtL [] 1), 1⟩ := by
  refine fix_ind (P := fun (x3 : Int) (y : Bool ⊕ Unit) => (∀ r', y = .inl r' → ∀ st, slices_IsSortedFunc_impl_Event_impl_Event_w_impl_CompareEvents_Q x_1 cmp_2 r' st → Q st) → (∀ u : Unit, y = .inr u → Run slices_IsSortedFunc_impl_Event_impl_Event_w_impl_CompareEvents_E 0 Q K ⟨mkTm .dead 25 [], mkS (rtL [] 1), 1⟩) → Run slices_IsSortedFunc_impl_Event_impl_Event_w_impl_CompareEvents_E 0 Q (.code (cL (cL (cR (cL (cR slices_IsSortedFunc_impl_Event_impl_Event_w_impl_CompareEvents_c))))) :: .lp (cL (cL (cR (cL (cR slices_IsSortedFunc_impl_Event_impl_Event_w_impl_CompareEvents_c))))) :: .blk 0 :: K) ⟨mkTm .dead 25 [(0, .isl false ((x_1).map enc_Event)), (1, .fn 52 []), (5, I (x3))], mkS (rtL [] 1), 1⟩) (slices_IsSortedFunc_impl_Event_impl_Event_w_impl_CompareEvents_la_fin x_1 cmp_2) ?_ h
  clear h y x3
  intro self ih x3 y h hr hn
  unfold slices_IsSortedFunc_impl_Event_impl_Event_w_impl_CompareEvents_la_F at h
  refine s_seq rfl ?_
  refine s_seq rfl ?_
  refine s_reg rfl ?_
  refine o 17 (I (x3)) rfl rfl (e_move rfl) ?_
  refine o 33 (B ((decide (x3 > 0)))) rfl rfl (e_bin rfl rfl rfl) ?_
  refine s_ops ?_
  refine s_cond rfl rfl (fun hb => ?_) (fun hb => ?_)
  · replace h := cT hb h
    refine s_skip rfl ?_
    refine s_seq rfl ?_
    refine s_block rfl ?_
    refine s_seq rfl ?_
    refine s_draw [0, 0, 0, 6, 14, 0, 0, 64, 224, 480, 1023, 2047] rfl (by decide +kernel) ?_
    refine dp [] [] (.fn 52 []) rfl (e_move rfl) rfl (rfl) (by decide) ?_
    refine dp [] [] (.isl false ((x_1).map enc_Event)) rfl (e_move rfl) rfl (rfl) (by decide) ?_
    refine dp [] [] (I (x3)) rfl (e_move rfl) rfl (rfl) (by decide) ?_
    obtain ⟨e4, he4, h⟩ := bS h
    refine dp [] [] (.iptr (.agg [I (e4.Day), I (e4.Party), str (e4.Action), I (e4.Amount)]) 0) rfl (e_indexAddr rfl rfl rfl (ix_islE rfl rfl rfl rfl he4)) rfl (rfl) (by decide) ?_
    refine dp [] [] (.agg [I (e4.Day), I (e4.Party), str (e4.Action), I (e4.Amount)]) rfl (e_ld rfl rfl) rfl (rfl) (by decide) ?_
    refine dp [] [] (.isl false ((x_1).map enc_Event)) rfl (e_move rfl) rfl (rfl) (by decide) ?_
    refine dp [] [] (I (x3)) rfl (e_move rfl) rfl (rfl) (by decide) ?_
    refine dp [] [] (I ((w64 (x3 - 1)))) rfl (e_bin rfl rfl rfl) rfl (rfl) (by decide) ?_
    obtain ⟨e5, he5, h⟩ := bS h
    refine dp [] [] (.iptr (.agg [I (e5.Day), I (e5.Party), str (e5.Action), I (e5.Amount)]) 0) rfl (e_indexAddr rfl rfl rfl (ix_islE rfl rfl rfl rfl he5)) rfl (rfl) (by decide) ?_
    refine dp [] [] (.agg [I (e5.Day), I (e5.Party), str (e5.Action), I (e5.Amount)]) rfl (e_ld rfl rfl) rfl (rfl) (by decide) ?_
    obtain ⟨r6, hr6, h⟩ := bS h
    refine dp [] [] (I (r6)) rfl (e_callV rfl rfl (call_q rfl rfl rfl (avS (shP rfl) (avS (shP rfl) (avN))) (impl_CompareEvents_F hr6) rfl rfl rfl)) rfl (w_call rfl rfl rfl rfl (avS (shP rfl) (avS (shP rfl) (avN))) (impl_CompareEvents_F hr6) rfl) (by decide) ?_
    refine dp [] [] (B ((decide (r6 < 0)))) rfl (e_bin rfl rfl rfl) rfl (rfl) (by decide) ?_
    refine de 225 rfl rfl ?_
    refine s_cond rfl rfl (fun hb => ?_) (fun hb => ?_)
    · replace h := cT hb h
      refine s_seq rfl ?_
      refine s_reg rfl ?_
      refine o 241 (B (false)) rfl rfl (e_assign rfl) ?_
      refine s_ops ?_
      exact s_ret rfl (hr _ (Option.some.inj h).symm _ (fin (vs := [B (false)]) rfl (absE (absorb_plain rfl) (absEN)) rfl rfl))
    · replace h := cF hb h
      refine s_skip rfl ?_
      refine s_blk ?_
      refine s_reg rfl ?_
      refine o 241 (I (x3)) rfl rfl (e_move rfl) ?_
      refine o 257 (I ((w64 (x3 - 1)))) rfl rfl (e_bin rfl rfl rfl) ?_
      refine o 273 (I ((w64 (x3 - 1)))) rfl rfl (e_assign rfl) ?_
      refine s_ops ?_
      refine s_lp ?_
      refine run_forget [0, 1, 5] [] [] rfl rfl rfl rfl ?_
      exact ih _ _ h hr hn
  · replace h := cF hb h
    refine s_exit rfl rfl ?_
    refine run_forget [] [] [] rfl rfl rfl hK ?_
    exact hn _ (Option.some.inj h).symm
theorem slices_IsSortedFunc_impl_Event_impl_Event_w_impl_CompareEvents_run (x_1 : List Event) (cmp_2 : Unit) (r : Bool) (h : slices_IsSortedFunc_impl_Event_impl_Event_w_impl_CompareEvents x_1 cmp_2 = some r) : Run slices_IsSortedFunc_impl_Event_impl_Event_w_impl_CompareEvents_E 0 (slices_IsSortedFunc_impl_Event_impl_Event_w_impl_CompareEvents_Q x_1 cmp_2 r) [.code slices_IsSortedFunc_impl_Event_impl_Event_w_impl_CompareEvents_c] (enter Tryd.f51 [.isl false ((x_1).map enc_Event), .fn 52 []]).2 := by
  refine run_at (enter_eq (ys := [.isl false ((x_1).map enc_Event), .fn 52 []]) (R := []) (n := 25) (l := [(0, .isl false ((x_1).map enc_Event)), (1, .fn 52 [])]) (nx := 1) rfl rfl rfl) ?_
  unfold slices_IsSortedFunc_impl_Event_impl_Event_w_impl_CompareEvents at h
  refine s_seq rfl ?_
  refine s_reg rfl ?_
  refine o 17 (B (false)) rfl rfl (e_assign rfl) ?_
  refine s_ops ?_
  refine s_seq rfl ?_
  refine s_seq rfl ?_
  refine s_reg rfl ?_
  refine o 33 (.isl false ((x_1).map enc_Event)) rfl rfl (e_move rfl) ?_
  refine o 49 (I ((len x_1))) rfl rfl (e_len rfl rfl rfl (l_isl rfl)) ?_
  refine o 65 (I ((w64 ((len x_1) - 1)))) rfl rfl (e_bin rfl rfl rfl) ?_
  refine o 81 (I ((w64 ((len x_1) - 1)))) rfl rfl (e_assign rfl) ?_
  refine s_ops ?_
  refine s_block rfl ?_
  obtain ⟨y7, hy7, hy71, hy72⟩ := bJ h
  refine s_loop rfl ?_
  refine run_forget [0, 1, 5] [] [] rfl rfl rfl rfl ?_
  refine slices_IsSortedFunc_impl_Event_impl_Event_w_impl_CompareEvents_la_run x_1 cmp_2 rfl hy7 (fun r' e st hq => by rw [hy71 r' e] at hq; exact hq) (fun u7 hu => ?_)
  replace h := hy72 u7 hu
  refine s_seq rfl ?_
  refine s_reg rfl ?_
  refine o 17 (B (true)) rfl rfl (e_assign rfl) ?_
  refine s_ops ?_
  obtain rfl := Option.some.inj h
  exact s_ret rfl (fin (vs := [B (true)]) rfl (absE (absorb_plain rfl) (absEN)) rfl rfl)
noncomputable def slices_IsSortedFunc_impl_Event_impl_Event_w_impl_CompareEvents_ent : Ent := ⟨[false, false], entF2 (decS enc_Event) (decBy fun x : Unit => (.fn 52 [] : V)) fun x_1 cmp_2 => (slices_IsSortedFunc_impl_Event_impl_Event_w_impl_CompareEvents x_1 cmp_2).map fun r => (B (r), [])⟩
theorem slices_IsSortedFunc_impl_Event_impl_Event_w_impl_CompareEvents_F {x_1 : List Event} {cmp_2 : Unit} {r : Bool} (h : slices_IsSortedFunc_impl_Event_impl_Event_w_impl_CompareEvents x_1 cmp_2 = some r) : slices_IsSortedFunc_impl_Event_impl_Event_w_impl_CompareEvents_ent.F [.isl false ((x_1).map enc_Event), .fn 52 []] = some (B (r), []) := by
  have e : slices_IsSortedFunc_impl_Event_impl_Event_w_impl_CompareEvents_ent.F [.isl false ((x_1).map enc_Event), .fn 52 []] = (slices_IsSortedFunc_impl_Event_impl_Event_w_impl_CompareEvents x_1 cmp_2).map fun r => (B (r), []) := by
    simp only [slices_IsSortedFunc_impl_Event_impl_Event_w_impl_CompareEvents_ent, entF2, decS, dec_ok (isl_inj enc_Event_inj), dec_unit, Option.bind_some]
  refine Eq.trans ?_ ((congrArg (Option.map fun r => ((B (r) : V), ([] : List V))) h))
  exact e
theorem slices_IsSortedFunc_impl_Event_impl_Event_w_impl_CompareEvents_good {G : Go.Ln.Ground} (g52 : Good Tryd.prog G 52 impl_CompareEvents_ent) : Good Tryd.prog G 51 slices_IsSortedFunc_impl_Event_impl_Event_w_impl_CompareEvents_ent := by
  refine good_of_run (E := slices_IsSortedFunc_impl_Event_impl_Event_w_impl_CompareEvents_E) (fnOf_good (by
    intro p hp
    simp only [List.mem_cons, List.not_mem_nil, or_false] at hp
    rcases hp with rfl
    · exact g52)) agree_mk (Checked.mixed Tryd.checked) Tryd.func51 (c := slices_IsSortedFunc_impl_Event_impl_Event_w_impl_CompareEvents_c) (n := 2) ⟨rfl, rfl, by decide⟩ ?_
  intro vs r os h
  obtain ⟨v0, v1, x_1, cmp_2, rfl, q0, q1, h9⟩ := entI2 h
  obtain rfl := dec_of q0
  obtain rfl := dec_of q1
  obtain ⟨r1, hr1, he⟩ := Option.map_eq_some_iff.1 h9
  cases he
  exact ⟨rfl, slices_IsSortedFunc_impl_Event_impl_Event_w_impl_CompareEvents_run x_1 cmp_2 r1 hr1⟩
noncomputable def impl_IsValidEvents_c : Code := bodyOf Tryd.f16
noncomputable def impl_IsValidEvents_E : Env := mkE Tryd.prog [(50, impl_areEvents_ent), (51, slices_IsSortedFunc_impl_Event_impl_Event_w_impl_CompareEvents_ent)]
def impl_IsValidEvents_Q (list_1 : List Event) (parties_2 : Int) (r : Bool) (st : St) : Prop := finish impl_IsValidEvents_E Tryd.f16 [false, false] (enter Tryd.f16 [.isl false ((list_1).map enc_Event), I (parties_2)]).1 st = some (B (r), [])
theorem impl_IsValidEvents_run (list_1 : List Event) (parties_2 : Int) (r : Bool) (h : impl_IsValidEvents list_1 parties_2 = some r) : Run impl_IsValidEvents_E 0 (impl_IsValidEvents_Q list_1 parties_2 r) [.code impl_IsValidEvents_c] (enter Tryd.f16 [.isl false ((list_1).map enc_Event), I (parties_2)]).2 := by
  refine run_at (enter_eq (ys := [.isl false ((list_1).map enc_Event), I (parties_2)]) (R := []) (n := 12) (l := [(0, .isl false ((list_1).map enc_Event)), (1, I (parties_2))]) (nx := 1) rfl rfl rfl) ?_
  unfold impl_IsValidEvents at h
  refine s_seq rfl ?_
  refine s_reg rfl ?_
  refine o 17 (B (false)) rfl rfl (e_assign rfl) ?_
  refine s_ops ?_
  refine s_seq rfl ?_
  refine s_reg rfl ?_
  refine o 33 (.isl false ((list_1).map enc_Event)) rfl rfl (e_move rfl) ?_
  refine o 49 (I (parties_2)) rfl rfl (e_move rfl) ?_
  obtain ⟨r3, hr3, h⟩ := bS h
  refine o 65 (B (r3)) rfl rfl (e_callV rfl rfl (call_q rfl rfl rfl (avS (shP rfl) (avS (shP rfl) (avN))) (impl_areEvents_F hr3) rfl rfl rfl)) ?_
  refine o 81 (B (r3)) rfl rfl (e_move rfl) ?_
  obtain ⟨y4, hy4, hy41, hy42⟩ := bJ h
  have j4 : ∀ u4, y4 = .inr u4 → Run impl_IsValidEvents_E 0 (impl_IsValidEvents_Q list_1 parties_2 r) (.code (cR (cR impl_IsValidEvents_c)) :: []) ⟨mkTm .dead 12 [(4, B (u4))], mkS (rtL [] 1), 1⟩ := by
    intro u4 hu
    replace h := hy42 u4 hu
    obtain rfl := Option.some.inj h
    exact s_ret rfl (fin (vs := [B (u4)]) rfl (absE (absorb_plain rfl) (absEN)) rfl rfl)
  have r4 : ∀ r', y4 = .inl r' → ∀ st, impl_IsValidEvents_Q list_1 parties_2 r' st → (impl_IsValidEvents_Q list_1 parties_2 r) st := fun r' e st hq => by rw [hy41 r' e] at hq; exact hq
  replace h := hy4
  refine r_split (b := r3) 8 rfl (fun hb => ?_) (fun hb => ?_)
  · replace h := cT hb h
    refine og 97 (.isl false ((list_1).map enc_Event)) rfl rfl rfl rfl (e_move rfl) ?_
    obtain ⟨r5, hr5, h⟩ := bS h
    refine og 113 (B (r5)) rfl rfl rfl rfl (e_callV rfl rfl (call_q rfl rfl rfl (avS (shP rfl) (avS (shP rfl) (avN))) (slices_IsSortedFunc_impl_Event_impl_Event_w_impl_CompareEvents_F hr5) rfl rfl rfl)) ?_
    refine o 129 (B (r5)) rfl rfl (e_pickT rfl rfl) ?_
    refine o 145 (B (r5)) rfl rfl (e_assign rfl) ?_
    refine s_ops ?_
    refine run_forget [4] [] [] rfl rfl rfl rfl ?_
    exact j4 _ (Option.some.inj h).symm
  · replace h := cF hb h
    refine os 97 rfl rfl rfl rfl ?_
    refine os 113 rfl rfl rfl rfl ?_
    refine o 129 (B (false)) rfl rfl (e_pickF rfl rfl) ?_
    refine o 145 (B (false)) rfl rfl (e_assign rfl) ?_
    refine s_ops ?_
    refine run_forget [4] [] [] rfl rfl rfl rfl ?_
    exact j4 _ (Option.some.inj h).symm
noncomputable def impl_IsValidEvents_ent : Ent := ⟨[false, false], entF2 (decS enc_Event) (decBy I) fun list_1 parties_2 => (impl_IsValidEvents list_1 parties_2).map fun r => (B (r), [])⟩
theorem impl_IsValidEvents_F {list_1 : List Event} {parties_2 : Int} {r : Bool} (h : impl_IsValidEvents list_1 parties_2 = some r) : impl_IsValidEvents_ent.F [.isl false ((list_1).map enc_Event), I (parties_2)] = some (B (r), []) := by
  have e : impl_IsValidEvents_ent.F [.isl false ((list_1).map enc_Event), I (parties_2)] = (impl_IsValidEvents list_1 parties_2).map fun r => (B (r), []) := by
    simp only [impl_IsValidEvents_ent, entF2, decS, dec_ok (isl_inj enc_Event_inj), dec_ok I_inj, Option.bind_some]
  refine Eq.trans ?_ ((congrArg (Option.map fun r => ((B (r) : V), ([] : List V))) h))
  exact e
theorem impl_IsValidEvents_good {G : Go.Ln.Ground} (g50 : Good Tryd.prog G 50 impl_areEvents_ent) (g51 : Good Tryd.prog G 51 slices_IsSortedFunc_impl_Event_impl_Event_w_impl_CompareEvents_ent) : Good Tryd.prog G 16 impl_IsValidEvents_ent := by
  refine good_of_run (E := impl_IsValidEvents_E) (fnOf_good (by
    intro p hp
    simp only [List.mem_cons, List.not_mem_nil, or_false] at hp
    rcases hp with rfl | rfl
    · exact g50
    · exact g51)) agree_mk (Checked.mixed Tryd.checked) Tryd.func16 (c := impl_IsValidEvents_c) (n := 2) ⟨rfl, rfl, by decide⟩ ?_
  intro vs r os h
  obtain ⟨v0, v1, list_1, parties_2, rfl, q0, q1, h9⟩ := entI2 h
  obtain rfl := dec_of q0
  obtain rfl := dec_of q1
  obtain ⟨r1, hr1, he⟩ := Option.map_eq_some_iff.1 h9
  cases he
  exact ⟨rfl, impl_IsValidEvents_run list_1 parties_2 r1 hr1⟩
noncomputable def impl_CountActions_c : Code := bodyOf Tryd.f19
noncomputable def impl_CountActions_E : Env := mkE Tryd.prog [(16, impl_IsValidEvents_ent)]
def impl_CountActions_Q (list_1 : List Event) (parties_2 : Int) (party_3 : Int) (action_4 : Str) (r : Int × Int × Bool) (st : St) : Prop := finish impl_CountActions_E Tryd.f19 [false, false, false, false] (enter Tryd.f19 [.isl false ((list_1).map enc_Event), I (parties_2), I (party_3), str (action_4)]).1 st = some (.tup [I (r.1), I (r.2.1), B (r.2.2)], [])
theorem impl_CountActions_la_run (list_1 : List Event) (parties_2 : Int) (party_3 : Int) (action_4 : Str)  {Q : St → Prop} {K : List It} (hK : noD K = true) {x6 : Int × Int × Int} {y : (Int × Int × Bool) ⊕ (Int × Int)} (h : impl_CountActions_la list_1 parties_2 party_3 action_4 x6 = some y) : (∀ r', y = .inl r' → ∀ st, impl_CountActions_Q list_1 parties_2 party_3 action_4 r' st → Q st) → (∀ u : Int × Int, y = .inr u → Run impl_CountActions_E 0 Q K ⟨mkTm .dead 44 [(11, I (u.1)), (12, I (u.2))], mkS (rtL [] 1), 1⟩) → Run impl_CountActions_E 0 Q (.code (cL (cL (cR (cL (cR (cR (cR impl_CountActions_c))))))) :: .lp (cL (cL (cR (cL (cR (cR (cR impl_CountActions_c))))))) :: .blk 0 :: K) ⟨mkTm .dead 44 [(2, I (party_3)), (3, str (action_4)), (11, I (x6.1)), (12, I (x6.2.1)), (19, .isl false ((list_1).map enc_Event)), (20, I ((len list_1))), (21, I (x6.2.2))], mkS (rtL [] 1), 1⟩ := by
  refine fix_ind (P := fun (x6 : Int × Int × Int) (y : (Int × Int × Bool) ⊕ (Int × Int)) => (∀ r', y = .inl r' → ∀ st, impl_CountActions_Q list_1 parties_2 party_3 action_4 r' st → Q st) → (∀ u : Int × Int, y = .inr u → Run impl_CountActions_E 0 Q K ⟨mkTm .dead 44 [(11, I (u.1)), (12, I (u.2))], mkS (rtL [] 1), 1⟩) → Run impl_CountActions_E 0 Q (.code (cL (cL (cR (cL (cR (cR (cR impl_CountActions_c))))))) :: .lp (cL (cL (cR (cL (cR (cR (cR impl_CountActions_c))))))) :: .blk 0 :: K) ⟨mkTm .dead 44 [(2, I (party_3)), (3, str (action_4)), (11, I (x6.1)), (12, I (x6.2.1)), (19, .isl false ((list_1).map enc_Event)), (20, I ((len list_1))), (21, I (x6.2.2))], mkS (rtL [] 1), 1⟩) (impl_CountActions_la_fin list_1 parties_2 party_3 action_4) ?_ h
  clear h y x6
  intro self ih x6 y h hr hn
  unfold impl_CountActions_la_F at h
  refine s_seq rfl ?_
  refine s_reg rfl ?_
  refine o 17 (B ((decide (x6.2.2 < (len list_1))))) rfl rfl (e_bin rfl rfl rfl) ?_
  refine s_ops ?_
  refine s_seq rfl ?_
  refine s_cond rfl rfl (fun hb => ?_) (fun hb => ?_)
  · replace h := cT hb h
    refine s_skip rfl ?_
    refine s_seq rfl ?_
    refine s_block rfl ?_
    refine s_seq rfl ?_
    refine s_reg rfl ?_
    obtain ⟨e7, he7, h⟩ := bS h
    refine o 33 (.iptr (.agg [I (e7.Day), I (e7.Party), str (e7.Action), I (e7.Amount)]) 0) rfl rfl (e_indexAddr rfl rfl rfl (ix_islE rfl rfl rfl rfl he7)) ?_
    refine o 49 (.agg [I (e7.Day), I (e7.Party), str (e7.Action), I (e7.Amount)]) rfl rfl (e_ld rfl rfl) ?_
    refine o 65 (.hp 49 0 [] 4 0 0) rfl rfl (e_allocP (z := .agg [I (0), I (0), str ([]), I (0)]) rfl rfl rfl) ?_
    refine o0 81 rfl rfl (e_st rfl rfl (st_at (path := []) (pl := true) (e' := .agg [I (e7.Day), I (e7.Party), str (e7.Action), I (e7.Amount)]) (es2' := [.agg [I (e7.Day), I (e7.Party), str (e7.Action), I (e7.Amount)]]) rfl (absorb_plain rfl) rfl rfl rfl (ra_n) rfl rfl rfl rfl rfl (sr_n) 0 rfl)) ?_
    refine s_ops ?_
    refine s_seq rfl ?_
    refine s_reg rfl ?_
    refine o 97 (.hp 49 0 [] 4 0 1) rfl rfl (e_fieldAddr rfl rfl rfl) ?_
    refine o 113 (I (e7.Party)) rfl rfl (e_ld rfl rfl) ?_
    refine o 129 (I (party_3)) rfl rfl (e_move rfl) ?_
    refine o 145 (B ((e7.Party == party_3))) rfl rfl (e_bin rfl rfl rfl) ?_
    refine o 161 (B ((e7.Party == party_3))) rfl rfl (e_move rfl) ?_
    obtain ⟨u8, hu8, h⟩ := lJ h
    have j8 : Run impl_CountActions_E 0 Q (.code (cR (cR (cL (cL (cR (cR (cL (cL (cR (cL (cR (cR (cR impl_CountActions_c))))))))))))) :: .blk 1 :: .code (cR (cR (cR (cL (cL (cR (cL (cR (cR (cR impl_CountActions_c)))))))))) :: .lp (cL (cL (cR (cL (cR (cR (cR impl_CountActions_c))))))) :: .blk 0 :: K) ⟨mkTm .dead 44 [(2, I (party_3)), (3, str (action_4)), (11, I (x6.1)), (12, I (x6.2.1)), (14, .hp 1 0 [] 4 0 0), (19, .isl false ((list_1).map enc_Event)), (20, I ((len list_1))), (21, I (x6.2.2)), (34, B (u8))], mkS (rtL [⟨0, 4, [.agg [I (e7.Day), I (e7.Party), str (e7.Action), I (e7.Amount)]]⟩] 1), 2⟩ := by
      obtain ⟨u9, hu9, h⟩ := lJ h
      have j9 : Run impl_CountActions_E 0 Q (.blk 1 :: .code (cR (cR (cR (cL (cL (cR (cL (cR (cR (cR impl_CountActions_c)))))))))) :: .lp (cL (cL (cR (cL (cR (cR (cR impl_CountActions_c))))))) :: .blk 0 :: K) ⟨mkTm .dead 44 [(2, I (party_3)), (3, str (action_4)), (11, I (u9.1)), (12, I (u9.2)), (19, .isl false ((list_1).map enc_Event)), (20, I ((len list_1))), (21, I (x6.2.2))], mkS (rtL [] 1), 1⟩ := by
        refine s_blk ?_
        refine s_reg rfl ?_
        refine o 17 (I ((w64 (x6.2.2 + 1)))) rfl rfl (e_bin rfl rfl rfl) ?_
        refine o 33 (I ((w64 (x6.2.2 + 1)))) rfl rfl (e_move rfl) ?_
        refine s_ops ?_
        refine s_lp ?_
        refine run_forget [2, 3, 11, 12, 19, 20, 21] [] [] rfl rfl rfl rfl ?_
        exact ih _ _ h hr hn
      replace h := hu9
      clear hu9
      refine s_cond rfl rfl (fun hb => ?_) (fun hb => ?_)
      · replace h := cTp hb h
        refine s_seq rfl ?_
        refine s_reg rfl ?_
        refine o 18 (I (x6.1)) rfl rfl (e_move rfl) ?_
        refine o 34 (I ((w64 (x6.1 + 1)))) rfl rfl (e_bin rfl rfl rfl) ?_
        refine o 50 (I ((w64 (x6.1 + 1)))) rfl rfl (e_assign rfl) ?_
        refine s_ops ?_
        refine s_reg rfl ?_
        refine o 66 (I (x6.2.1)) rfl rfl (e_move rfl) ?_
        refine o 82 (.hp 1 0 [] 4 0 3) rfl rfl (e_fieldAddr rfl rfl rfl) ?_
        refine o 98 (I (e7.Amount)) rfl rfl (e_ld rfl rfl) ?_
        refine o 114 (I ((w64 (x6.2.1 + e7.Amount)))) rfl rfl (e_bin rfl rfl rfl) ?_
        refine o 130 (I ((w64 (x6.2.1 + e7.Amount)))) rfl rfl (e_assign rfl) ?_
        refine s_ops ?_
        refine run_forget [2, 3, 11, 12, 19, 20, 21] [] [] rfl rfl rfl rfl ?_
        subst h
        exact j9
      · replace h := cFp hb h
        refine s_skip rfl ?_
        refine run_forget [2, 3, 11, 12, 19, 20, 21] [] [] rfl rfl rfl rfl ?_
        subst h
        exact j9
    replace h := hu8
    clear hu8
    refine r_split (b := (e7.Party == party_3)) 29 rfl (fun hb => ?_) (fun hb => ?_)
    · replace h := cTp hb h
      refine og 177 (.hp 49 0 [] 4 0 2) rfl rfl rfl rfl (e_fieldAddr rfl rfl rfl) ?_
      refine og 193 (str (e7.Action)) rfl rfl rfl rfl (e_ld rfl rfl) ?_
      refine og 209 (str (action_4)) rfl rfl rfl rfl (e_move rfl) ?_
      refine og 225 (B ((e7.Action == action_4))) rfl rfl rfl rfl (e_bin rfl rfl b_streq) ?_
      refine o 241 (B ((e7.Action == action_4))) rfl rfl (e_pickT rfl rfl) ?_
      refine s_ops ?_
      refine run_forget [2, 3, 11, 12, 14, 19, 20, 21, 34] [49] [⟨0, 4, [.agg [I (e7.Day), I (e7.Party), str (e7.Action), I (e7.Amount)]]⟩] rfl rfl rfl rfl ?_
      subst h
      exact j8
    · replace h := cFp hb h
      refine os 177 rfl rfl rfl rfl ?_
      refine os 193 rfl rfl rfl rfl ?_
      refine os 209 rfl rfl rfl rfl ?_
      refine os 225 rfl rfl rfl rfl ?_
      refine o 241 (B (false)) rfl rfl (e_pickF rfl rfl) ?_
      refine s_ops ?_
      refine run_forget [2, 3, 11, 12, 14, 19, 20, 21, 34] [49] [⟨0, 4, [.agg [I (e7.Day), I (e7.Party), str (e7.Action), I (e7.Amount)]]⟩] rfl rfl rfl rfl ?_
      subst h
      exact j8
  · replace h := cF hb h
    refine s_exit rfl rfl ?_
    refine run_forget [11, 12] [] [] rfl rfl rfl hK ?_
    exact hn _ (Option.some.inj h).symm
theorem impl_CountActions_run (list_1 : List Event) (parties_2 : Int) (party_3 : Int) (action_4 : Str) (r : Int × Int × Bool) (h : impl_CountActions list_1 parties_2 party_3 action_4 = some r) : Run impl_CountActions_E 0 (impl_CountActions_Q list_1 parties_2 party_3 action_4 r) [.code impl_CountActions_c] (enter Tryd.f19 [.isl false ((list_1).map enc_Event), I (parties_2), I (party_3), str (action_4)]).2 := by
  refine run_at (enter_eq (ys := [.isl false ((list_1).map enc_Event), I (parties_2), I (party_3), str (action_4)]) (R := []) (n := 44) (l := [(0, .isl false ((list_1).map enc_Event)), (1, I (parties_2)), (2, I (party_3)), (3, str (action_4))]) (nx := 1) rfl rfl rfl) ?_
  unfold impl_CountActions at h
  refine s_seq rfl ?_
  refine s_reg rfl ?_
  refine o 17 (I (0)) rfl rfl (e_assign rfl) ?_
  refine o 33 (I (0)) rfl rfl (e_assign rfl) ?_
  refine o 49 (B (false)) rfl rfl (e_assign rfl) ?_
  refine s_ops ?_
  refine s_seq rfl ?_
  refine s_seq rfl ?_
  refine s_reg rfl ?_
  refine o 65 (.isl false ((list_1).map enc_Event)) rfl rfl (e_move rfl) ?_
  refine o 81 (I (parties_2)) rfl rfl (e_move rfl) ?_
  obtain ⟨r5, hr5, h⟩ := bS h
  refine o 97 (B (r5)) rfl rfl (e_callV rfl rfl (call_q rfl rfl rfl (avS (shP rfl) (avS (shP rfl) (avN))) (impl_IsValidEvents_F hr5) rfl rfl rfl)) ?_
  refine o 113 (B ((!r5))) rfl rfl (e_un rfl rfl) ?_
  refine s_ops ?_
  refine s_cond rfl rfl (fun hb => ?_) (fun hb => ?_)
  · replace h := cT hb h
    refine s_seq rfl ?_
    refine s_reg rfl ?_
    refine o 129 (I (0)) rfl rfl (e_assign rfl) ?_
    refine o 145 (I (0)) rfl rfl (e_assign rfl) ?_
    refine o 161 (B (false)) rfl rfl (e_assign rfl) ?_
    refine s_ops ?_
    obtain rfl := Option.some.inj h
    exact s_ret rfl (fin (vs := [I (0), I (0), B (false)]) rfl (absE (absorb_plain rfl) (absE (absorb_plain rfl) (absE (absorb_plain rfl) (absEN)))) rfl rfl)
  · replace h := cF hb h
    refine s_skip rfl ?_
    refine s_seq rfl ?_
    refine s_reg rfl ?_
    refine o 129 (I (0)) rfl rfl (e_assign rfl) ?_
    refine o 145 (I (0)) rfl rfl (e_assign rfl) ?_
    refine s_ops ?_
    refine s_seq rfl ?_
    refine s_seq rfl ?_
    refine s_reg rfl ?_
    refine o 161 (.isl false ((list_1).map enc_Event)) rfl rfl (e_move rfl) ?_
    refine o 177 (I ((len list_1))) rfl rfl (e_len rfl rfl rfl (l_isl rfl)) ?_
    refine o 193 (I (0)) rfl rfl (e_move rfl) ?_
    refine s_ops ?_
    refine s_block rfl ?_
    obtain ⟨y10, hy10, hy101, hy102⟩ := bJ h
    refine s_loop rfl ?_
    refine run_forget [2, 3, 11, 12, 19, 20, 21] [] [] rfl rfl rfl rfl ?_
    refine impl_CountActions_la_run list_1 parties_2 party_3 action_4 rfl hy10 (fun r' e st hq => by rw [hy101 r' e] at hq; exact hq) (fun u10 hu => ?_)
    replace h := hy102 u10 hu
    refine s_seq rfl ?_
    refine s_reg rfl ?_
    refine o 17 (I (u10.1)) rfl rfl (e_move rfl) ?_
    refine o 33 (I (u10.2)) rfl rfl (e_move rfl) ?_
    refine o 49 (I (u10.1)) rfl rfl (e_assign rfl) ?_
    refine o 65 (I (u10.2)) rfl rfl (e_assign rfl) ?_
    refine o 81 (B (true)) rfl rfl (e_assign rfl) ?_
    refine s_ops ?_
    obtain rfl := Option.some.inj h
    exact s_ret rfl (fin (vs := [I (u10.1), I (u10.2), B (true)]) rfl (absE (absorb_plain rfl) (absE (absorb_plain rfl) (absE (absorb_plain rfl) (absEN)))) rfl rfl)
noncomputable def impl_CountActions_ent : Ent := ⟨[false, false, false, false], entF4 (decS enc_Event) (decBy I) (decBy I) (decBy str) fun list_1 parties_2 party_3 action_4 => (impl_CountActions list_1 parties_2 party_3 action_4).map fun r => (.tup [I (r.1), I (r.2.1), B (r.2.2)], [])⟩
theorem impl_CountActions_F {list_1 : List Event} {parties_2 : Int} {party_3 : Int} {action_4 : Str} {r : Int × Int × Bool} (h : impl_CountActions list_1 parties_2 party_3 action_4 = some r) : impl_CountActions_ent.F [.isl false ((list_1).map enc_Event), I (parties_2), I (party_3), str (action_4)] = some (.tup [I (r.1), I (r.2.1), B (r.2.2)], []) := by
  have e : impl_CountActions_ent.F [.isl false ((list_1).map enc_Event), I (parties_2), I (party_3), str (action_4)] = (impl_CountActions list_1 parties_2 party_3 action_4).map fun r => (.tup [I (r.1), I (r.2.1), B (r.2.2)], []) := by
    simp only [impl_CountActions_ent, entF4, decS, dec_ok (isl_inj enc_Event_inj), dec_ok I_inj, dec_ok I_inj, dec_ok str_inj, Option.bind_some]
  refine Eq.trans ?_ ((congrArg (Option.map fun r => ((.tup [I (r.1), I (r.2.1), B (r.2.2)] : V), ([] : List V))) h))
  exact e
theorem impl_CountActions_good {G : Go.Ln.Ground} (g16 : Good Tryd.prog G 16 impl_IsValidEvents_ent) : Good Tryd.prog G 19 impl_CountActions_ent := by
  refine good_of_run (E := impl_CountActions_E) (fnOf_good (by
    intro p hp
    simp only [List.mem_cons, List.not_mem_nil, or_false] at hp
    rcases hp with rfl
    · exact g16)) agree_mk (Checked.mixed Tryd.checked) Tryd.func19 (c := impl_CountActions_c) (n := 4) ⟨rfl, rfl, by decide⟩ ?_
  intro vs r os h
  obtain ⟨v0, v1, v2, v3, list_1, parties_2, party_3, action_4, rfl, q0, q1, q2, q3, h9⟩ := entI4 h
  obtain rfl := dec_of q0
  obtain rfl := dec_of q1
  obtain rfl := dec_of q2
  obtain rfl := dec_of q3
  obtain ⟨r1, hr1, he⟩ := Option.map_eq_some_iff.1 h9
  cases he
  exact ⟨rfl, impl_CountActions_run list_1 parties_2 party_3 action_4 r1 hr1⟩
noncomputable def laws_eqEvent_c : Code := bodyOf Tryd.f53
noncomputable def laws_eqEvent_E : Env := mkE Tryd.prog []
def laws_eqEvent_Q (a_1 : Event) (b_2 : Event) (r : Bool) (st : St) : Prop := finish laws_eqEvent_E Tryd.f53 [false, false] (enter Tryd.f53 [.agg [I (a_1.Day), I (a_1.Party), str (a_1.Action), I (a_1.Amount)], .agg [I (b_2.Day), I (b_2.Party), str (b_2.Action), I (b_2.Amount)]]).1 st = some (B (r), [])
theorem laws_eqEvent_run (a_1 : Event) (b_2 : Event) (r : Bool) (h : laws_eqEvent a_1 b_2 = some r) : Run laws_eqEvent_E 0 (laws_eqEvent_Q a_1 b_2 r) [.code laws_eqEvent_c] (enter Tryd.f53 [.agg [I (a_1.Day), I (a_1.Party), str (a_1.Action), I (a_1.Amount)], .agg [I (b_2.Day), I (b_2.Party), str (b_2.Action), I (b_2.Amount)]]).2 := by
  refine run_at (enter_eq (ys := [.agg [I (a_1.Day), I (a_1.Party), str (a_1.Action), I (a_1.Amount)], .agg [I (b_2.Day), I (b_2.Party), str (b_2.Action), I (b_2.Amount)]]) (R := []) (n := 25) (l := [(0, .agg [I (a_1.Day), I (a_1.Party), str (a_1.Action), I (a_1.Amount)]), (1, .agg [I (b_2.Day), I (b_2.Party), str (b_2.Action), I (b_2.Amount)])]) (nx := 1) rfl rfl rfl) ?_
  unfold laws_eqEvent at h
  refine s_seq rfl ?_
  refine s_reg rfl ?_
  refine o 17 (.hp 1 0 [] 4 0 0) rfl rfl (e_boxP rfl rfl rfl) ?_
  refine o 33 (.hp 17 0 [] 4 0 0) rfl rfl (e_boxP rfl rfl rfl) ?_
  refine o 49 (B (false)) rfl rfl (e_assign rfl) ?_
  refine s_ops ?_
  refine s_seq rfl ?_
  refine s_seq rfl ?_
  refine s_reg rfl ?_
  refine o 65 (.hp 1 0 [] 4 0 0) rfl rfl (e_fieldAddr rfl rfl rfl) ?_
  refine o 81 (I (a_1.Day)) rfl rfl (e_ld rfl rfl) ?_
  refine o 97 (.hp 17 0 [] 4 0 0) rfl rfl (e_fieldAddr rfl rfl rfl) ?_
  refine o 113 (I (b_2.Day)) rfl rfl (e_ld rfl rfl) ?_
  refine o 129 (B ((a_1.Day != b_2.Day))) rfl rfl (e_bin rfl rfl rfl) ?_
  refine s_ops ?_
  refine s_cond rfl rfl (fun hb => ?_) (fun hb => ?_)
  · replace h := cT hb h
    refine s_seq rfl ?_
    refine s_reg rfl ?_
    refine o 145 (B (false)) rfl rfl (e_assign rfl) ?_
    refine s_ops ?_
    obtain rfl := Option.some.inj h
    exact s_ret rfl (fin (vs := [B (false)]) rfl (absE (absorb_plain rfl) (absEN)) rfl rfl)
  · replace h := cF hb h
    refine s_skip rfl ?_
    refine s_seq rfl ?_
    refine s_seq rfl ?_
    refine s_reg rfl ?_
    refine o 145 (.hp 1 0 [] 4 0 1) rfl rfl (e_fieldAddr rfl rfl rfl) ?_
    refine o 161 (I (a_1.Party)) rfl rfl (e_ld rfl rfl) ?_
    refine o 177 (.hp 17 0 [] 4 0 1) rfl rfl (e_fieldAddr rfl rfl rfl) ?_
    refine o 193 (I (b_2.Party)) rfl rfl (e_ld rfl rfl) ?_
    refine o 209 (B ((a_1.Party != b_2.Party))) rfl rfl (e_bin rfl rfl rfl) ?_
    refine s_ops ?_
    refine s_cond rfl rfl (fun hb => ?_) (fun hb => ?_)
    · replace h := cT hb h
      refine s_seq rfl ?_
      refine s_reg rfl ?_
      refine o 225 (B (false)) rfl rfl (e_assign rfl) ?_
      refine s_ops ?_
      obtain rfl := Option.some.inj h
      exact s_ret rfl (fin (vs := [B (false)]) rfl (absE (absorb_plain rfl) (absEN)) rfl rfl)
    · replace h := cF hb h
      refine s_skip rfl ?_
      refine s_seq rfl ?_
      refine s_seq rfl ?_
      refine s_reg rfl ?_
      refine o 225 (.hp 1 0 [] 4 0 2) rfl rfl (e_fieldAddr rfl rfl rfl) ?_
      refine o 241 (str (a_1.Action)) rfl rfl (e_ld rfl rfl) ?_
      refine o 257 (.hp 17 0 [] 4 0 2) rfl rfl (e_fieldAddr rfl rfl rfl) ?_
      refine o 273 (str (b_2.Action)) rfl rfl (e_ld rfl rfl) ?_
      refine o 289 (B ((!(a_1.Action == b_2.Action)))) rfl rfl (e_bin rfl rfl b_strne) ?_
      refine s_ops ?_
      refine s_cond rfl rfl (fun hb => ?_) (fun hb => ?_)
      · replace h := cT hb h
        refine s_seq rfl ?_
        refine s_reg rfl ?_
        refine o 305 (B (false)) rfl rfl (e_assign rfl) ?_
        refine s_ops ?_
        obtain rfl := Option.some.inj h
        exact s_ret rfl (fin (vs := [B (false)]) rfl (absE (absorb_plain rfl) (absEN)) rfl rfl)
      · replace h := cF hb h
        refine s_skip rfl ?_
        refine s_seq rfl ?_
        refine s_seq rfl ?_
        refine s_reg rfl ?_
        refine o 305 (.hp 1 0 [] 4 0 3) rfl rfl (e_fieldAddr rfl rfl rfl) ?_
        refine o 321 (I (a_1.Amount)) rfl rfl (e_ld rfl rfl) ?_
        refine o 337 (.hp 17 0 [] 4 0 3) rfl rfl (e_fieldAddr rfl rfl rfl) ?_
        refine o 353 (I (b_2.Amount)) rfl rfl (e_ld rfl rfl) ?_
        refine o 369 (B ((a_1.Amount != b_2.Amount))) rfl rfl (e_bin rfl rfl rfl) ?_
        refine s_ops ?_
        refine s_cond rfl rfl (fun hb => ?_) (fun hb => ?_)
        · replace h := cT hb h
          refine s_seq rfl ?_
          refine s_reg rfl ?_
          refine o 385 (B (false)) rfl rfl (e_assign rfl) ?_
          refine s_ops ?_
          obtain rfl := Option.some.inj h
          exact s_ret rfl (fin (vs := [B (false)]) rfl (absE (absorb_plain rfl) (absEN)) rfl rfl)
        · replace h := cF hb h
          refine s_skip rfl ?_
          refine s_seq rfl ?_
          refine s_reg rfl ?_
          refine o 385 (B (true)) rfl rfl (e_assign rfl) ?_
          refine s_ops ?_
          obtain rfl := Option.some.inj h
          exact s_ret rfl (fin (vs := [B (true)]) rfl (absE (absorb_plain rfl) (absEN)) rfl rfl)
noncomputable def laws_eqEvent_ent : Ent := ⟨[false, false], entF2 (decBy enc_Event) (decBy enc_Event) fun a_1 b_2 => (laws_eqEvent a_1 b_2).map fun r => (B (r), [])⟩
theorem laws_eqEvent_F {a_1 : Event} {b_2 : Event} {r : Bool} (h : laws_eqEvent a_1 b_2 = some r) : laws_eqEvent_ent.F [.agg [I (a_1.Day), I (a_1.Party), str (a_1.Action), I (a_1.Amount)], .agg [I (b_2.Day), I (b_2.Party), str (b_2.Action), I (b_2.Amount)]] = some (B (r), []) := by
  have e : laws_eqEvent_ent.F [enc_Event a_1, enc_Event b_2] = (laws_eqEvent a_1 b_2).map fun r => (B (r), []) := by
    simp only [laws_eqEvent_ent, entF2, decS, dec_ok enc_Event_inj, dec_ok enc_Event_inj, Option.bind_some]
  refine Eq.trans ?_ ((congrArg (Option.map fun r => ((B (r) : V), ([] : List V))) h))
  exact e
theorem laws_eqEvent_good {G : Go.Ln.Ground} : Good Tryd.prog G 53 laws_eqEvent_ent := by
  refine good_of_run (E := laws_eqEvent_E) (fnOf_good (by simp)) agree_mk (Checked.mixed Tryd.checked) Tryd.func53 (c := laws_eqEvent_c) (n := 2) ⟨rfl, rfl, by decide⟩ ?_
  intro vs r os h
  obtain ⟨v0, v1, a_1, b_2, rfl, q0, q1, h9⟩ := entI2 h
  obtain rfl := dec_of q0
  obtain rfl := dec_of q1
  obtain ⟨r1, hr1, he⟩ := Option.map_eq_some_iff.1 h9
  cases he
  exact ⟨rfl, laws_eqEvent_run a_1 b_2 r1 hr1⟩
noncomputable def laws_eqEventS_c : Code := bodyOf Tryd.f17
noncomputable def laws_eqEventS_E : Env := mkE Tryd.prog [(53, laws_eqEvent_ent)]
def laws_eqEventS_Q (a_1 : List Event) (b_2 : List Event) (r : Bool) (st : St) : Prop := finish laws_eqEventS_E Tryd.f17 [false, false] (enter Tryd.f17 [.isl false ((a_1).map enc_Event), .isl false ((b_2).map enc_Event)]).1 st = some (B (r), [])
theorem laws_eqEventS_la_run (a_1 : List Event) (b_2 : List Event)  {Q : St → Prop} {K : List It} (hK : noD K = true) {x3 : Int} {y : Bool ⊕ Unit} (h : laws_eqEventS_la a_1 b_2 x3 = some y) : (∀ r', y = .inl r' → ∀ st, laws_eqEventS_Q a_1 b_2 r' st → Q st) → (∀ u : Unit, y = .inr u → Run laws_eqEventS_E 0 Q K ⟨mkTm .dead 27 [], mkS (rtL [] 1), 1⟩) → Run laws_eqEventS_E 0 Q (.code (cL (cL (cR (cL (cR (cR laws_eqEventS_c)))))) :: .lp (cL (cL (cR (cL (cR (cR laws_eqEventS_c)))))) :: .blk 0 :: K) ⟨mkTm .dead 27 [(0, .isl false ((a_1).map enc_Event)), (1, .isl false ((b_2).map enc_Event)), (5, I (x3))], mkS (rtL [] 1), 1⟩ := by
  refine fix_ind (P := fun (x3 : Int) (y : Bool ⊕ Unit) => (∀ r', y = .inl r' → ∀ st, laws_eqEventS_Q a_1 b_2 r' st → Q st) → (∀ u : Unit, y = .inr u → Run laws_eqEventS_E 0 Q K ⟨mkTm .dead 27 [], mkS (rtL [] 1), 1⟩) → Run laws_eqEventS_E 0 Q (.code (cL (cL (cR (cL (cR (cR laws_eqEventS_c)))))) :: .lp (cL (cL (cR (cL (cR (cR laws_eqEventS_c)))))) :: .blk 0 :: K) ⟨mkTm .dead 27 [(0, .isl false ((a_1).map enc_Event)), (1, .isl false ((b_2).map enc_Event)), (5, I (x3))], mkS (rtL [] 1), 1⟩) (laws_eqEventS_la_fin a_1 b_2) ?_ h
  clear h y x3
  intro self ih x3 y h hr hn
  unfold laws_eqEventS_la_F at h
  refine s_seq rfl ?_
  refine s_seq rfl ?_
  refine s_reg rfl ?_
  refine o 17 (I (x3)) rfl rfl (e_move rfl) ?_
  refine o 33 (.isl false ((a_1).map enc_Event)) rfl rfl (e_move rfl) ?_
  refine o 49 (I ((len a_1))) rfl rfl (e_len rfl rfl rfl (l_isl rfl)) ?_
  refine o 65 (B ((decide (x3 < (len a_1))))) rfl rfl (e_bin rfl rfl rfl) ?_
  refine s_ops ?_
  refine s_cond rfl rfl (fun hb => ?_) (fun hb => ?_)
  · replace h := cT hb h
    refine s_skip rfl ?_
    refine s_seq rfl ?_
    refine s_block rfl ?_
    refine s_seq rfl ?_
    refine s_draw [0, 0, 3, 7, 0, 0, 48, 112, 255, 511] rfl (by decide +kernel) ?_
    refine dp [] [] (.isl false ((a_1).map enc_Event)) rfl (e_move rfl) rfl (rfl) (by decide) ?_
    refine dp [] [] (I (x3)) rfl (e_move rfl) rfl (rfl) (by decide) ?_
    obtain ⟨e4, he4, h⟩ := bS h
    refine dp [] [] (.iptr (.agg [I (e4.Day), I (e4.Party), str (e4.Action), I (e4.Amount)]) 0) rfl (e_indexAddr rfl rfl rfl (ix_islE rfl rfl rfl rfl he4)) rfl (rfl) (by decide) ?_
    refine dp [] [] (.agg [I (e4.Day), I (e4.Party), str (e4.Action), I (e4.Amount)]) rfl (e_ld rfl rfl) rfl (rfl) (by decide) ?_
    refine dp [] [] (.isl false ((b_2).map enc_Event)) rfl (e_move rfl) rfl (rfl) (by decide) ?_
    refine dp [] [] (I (x3)) rfl (e_move rfl) rfl (rfl) (by decide) ?_
    obtain ⟨e5, he5, h⟩ := bS h
    refine dp [] [] (.iptr (.agg [I (e5.Day), I (e5.Party), str (e5.Action), I (e5.Amount)]) 0) rfl (e_indexAddr rfl rfl rfl (ix_islE rfl rfl rfl rfl he5)) rfl (rfl) (by decide) ?_
    refine dp [] [] (.agg [I (e5.Day), I (e5.Party), str (e5.Action), I (e5.Amount)]) rfl (e_ld rfl rfl) rfl (rfl) (by decide) ?_
    obtain ⟨r6, hr6, h⟩ := bS h
    refine dp [] [] (B (r6)) rfl (e_callV rfl rfl (call_q rfl rfl rfl (avS (shP rfl) (avS (shP rfl) (avN))) (laws_eqEvent_F hr6) rfl rfl rfl)) rfl (w_call rfl rfl rfl rfl (avS (shP rfl) (avS (shP rfl) (avN))) (laws_eqEvent_F hr6) rfl) (by decide) ?_
    refine dp [] [] (B ((!r6))) rfl (e_un rfl rfl) rfl (rfl) (by decide) ?_
    refine de 225 rfl rfl ?_
    refine s_cond rfl rfl (fun hb => ?_) (fun hb => ?_)
    · replace h := cT hb h
      refine s_seq rfl ?_
      refine s_reg rfl ?_
      refine o 241 (B (false)) rfl rfl (e_assign rfl) ?_
      refine s_ops ?_
      exact s_ret rfl (hr _ (Option.some.inj h).symm _ (fin (vs := [B (false)]) rfl (absE (absorb_plain rfl) (absEN)) rfl rfl))
    · replace h := cF hb h
      refine s_skip rfl ?_
      refine s_blk ?_
      refine s_reg rfl ?_
      refine o 241 (I (x3)) rfl rfl (e_move rfl) ?_
      refine o 257 (I ((w64 (x3 + 1)))) rfl rfl (e_bin rfl rfl rfl) ?_
      refine o 273 (I ((w64 (x3 + 1)))) rfl rfl (e_assign rfl) ?_
      refine s_ops ?_
      refine s_lp ?_
      refine run_forget [0, 1, 5] [] [] rfl rfl rfl rfl ?_
      exact ih _ _ h hr hn
  · replace h := cF hb h
    refine s_exit rfl rfl ?_
    refine run_forget [] [] [] rfl rfl rfl hK ?_
    exact hn _ (Option.some.inj h).symm
theorem laws_eqEventS_run (a_1 : List Event) (b_2 : List Event) (r : Bool) (h : laws_eqEventS a_1 b_2 = some r) : Run laws_eqEventS_E 0 (laws_eqEventS_Q a_1 b_2 r) [.code laws_eqEventS_c] (enter Tryd.f17 [.isl false ((a_1).map enc_Event), .isl false ((b_2).map enc_Event)]).2 := by
  refine run_at (enter_eq (ys := [.isl false ((a_1).map enc_Event), .isl false ((b_2).map enc_Event)]) (R := []) (n := 27) (l := [(0, .isl false ((a_1).map enc_Event)), (1, .isl false ((b_2).map enc_Event))]) (nx := 1) rfl rfl rfl) ?_
  unfold laws_eqEventS at h
  refine s_seq rfl ?_
  refine s_reg rfl ?_
  refine o 17 (B (false)) rfl rfl (e_assign rfl) ?_
  refine s_ops ?_
  refine s_seq rfl ?_
  refine s_seq rfl ?_
  refine s_reg rfl ?_
  refine o 33 (.isl false ((a_1).map enc_Event)) rfl rfl (e_move rfl) ?_
  refine o 49 (I ((len a_1))) rfl rfl (e_len rfl rfl rfl (l_isl rfl)) ?_
  refine o 65 (.isl false ((b_2).map enc_Event)) rfl rfl (e_move rfl) ?_
  refine o 81 (I ((len b_2))) rfl rfl (e_len rfl rfl rfl (l_isl rfl)) ?_
  refine o 97 (B (((len a_1) != (len b_2)))) rfl rfl (e_bin rfl rfl rfl) ?_
  refine s_ops ?_
  refine s_cond rfl rfl (fun hb => ?_) (fun hb => ?_)
  · replace h := cT hb h
    refine s_seq rfl ?_
    refine s_reg rfl ?_
    refine o 113 (B (false)) rfl rfl (e_assign rfl) ?_
    refine s_ops ?_
    obtain rfl := Option.some.inj h
    exact s_ret rfl (fin (vs := [B (false)]) rfl (absE (absorb_plain rfl) (absEN)) rfl rfl)
  · replace h := cF hb h
    refine s_skip rfl ?_
    refine s_seq rfl ?_
    refine s_seq rfl ?_
    refine s_reg rfl ?_
    refine o 113 (I (0)) rfl rfl (e_assign rfl) ?_
    refine s_ops ?_
    refine s_block rfl ?_
    obtain ⟨y7, hy7, hy71, hy72⟩ := bJ h
    refine s_loop rfl ?_
    refine run_forget [0, 1, 5] [] [] rfl rfl rfl rfl ?_
    refine laws_eqEventS_la_run a_1 b_2 rfl hy7 (fun r' e st hq => by rw [hy71 r' e] at hq; exact hq) (fun u7 hu => ?_)
    replace h := hy72 u7 hu
    refine s_seq rfl ?_
    refine s_reg rfl ?_
    refine o 17 (B (true)) rfl rfl (e_assign rfl) ?_
    refine s_ops ?_
    obtain rfl := Option.some.inj h
    exact s_ret rfl (fin (vs := [B (true)]) rfl (absE (absorb_plain rfl) (absEN)) rfl rfl)
noncomputable def laws_eqEventS_ent : Ent := ⟨[false, false], entF2 (decS enc_Event) (decS enc_Event) fun a_1 b_2 => (laws_eqEventS a_1 b_2).map fun r => (B (r), [])⟩
theorem laws_eqEventS_F {a_1 : List Event} {b_2 : List Event} {r : Bool} (h : laws_eqEventS a_1 b_2 = some r) : laws_eqEventS_ent.F [.isl false ((a_1).map enc_Event), .isl false ((b_2).map enc_Event)] = some (B (r), []) := by
  have e : laws_eqEventS_ent.F [.isl false ((a_1).map enc_Event), .isl false ((b_2).map enc_Event)] = (laws_eqEventS a_1 b_2).map fun r => (B (r), []) := by
    simp only [laws_eqEventS_ent, entF2, decS, dec_ok (isl_inj enc_Event_inj), dec_ok (isl_inj enc_Event_inj), Option.bind_some]
  refine Eq.trans ?_ ((congrArg (Option.map fun r => ((B (r) : V), ([] : List V))) h))
  exact e
theorem laws_eqEventS_good {G : Go.Ln.Ground} (g53 : Good Tryd.prog G 53 laws_eqEvent_ent) : Good Tryd.prog G 17 laws_eqEventS_ent := by
  refine good_of_run (E := laws_eqEventS_E) (fnOf_good (by
    intro p hp
    simp only [List.mem_cons, List.not_mem_nil, or_false] at hp
    rcases hp with rfl
    · exact g53)) agree_mk (Checked.mixed Tryd.checked) Tryd.func17 (c := laws_eqEventS_c) (n := 2) ⟨rfl, rfl, by decide⟩ ?_
  intro vs r os h
  obtain ⟨v0, v1, a_1, b_2, rfl, q0, q1, h9⟩ := entI2 h
  obtain rfl := dec_of q0
  obtain rfl := dec_of q1
  obtain ⟨r1, hr1, he⟩ := Option.map_eq_some_iff.1 h9
  cases he
  exact ⟨rfl, laws_eqEventS_run a_1 b_2 r1 hr1⟩
noncomputable def laws_FnExactCountActions_c : Code := bodyOf Tryd.f4
noncomputable def laws_FnExactCountActions_E : Env := mkE Tryd.prog [(13, laws_szEventS_ent), (15, laws_toEventS_ent), (18, spec_CountActions_ent), (19, impl_CountActions_ent), (17, laws_eqEventS_ent)]
def laws_FnExactCountActions_Q (aList_1 : List Event) (aParties_2 : Int) (aParty_3 : Int) (aAction_4 : Str) (r : Bool) (st : St) : Prop := finish laws_FnExactCountActions_E Tryd.f4 [false, false, false, false] (enter Tryd.f4 [.isl false ((aList_1).map enc_Event), I (aParties_2), I (aParty_3), str (aAction_4)]).1 st = some (B (r), [])
theorem laws_FnExactCountActions_run (aList_1 : List Event) (aParties_2 : Int) (aParty_3 : Int) (aAction_4 : Str) (r : Bool) (h : laws_FnExactCountActions aList_1 aParties_2 aParty_3 aAction_4 = some r) : Run laws_FnExactCountActions_E 0 (laws_FnExactCountActions_Q aList_1 aParties_2 aParty_3 aAction_4 r) [.code laws_FnExactCountActions_c] (enter Tryd.f4 [.isl false ((aList_1).map enc_Event), I (aParties_2), I (aParty_3), str (aAction_4)]).2 := by
  refine run_at (enter_eq (ys := [.isl false ((aList_1).map enc_Event), I (aParties_2), I (aParty_3), str (aAction_4)]) (R := []) (n := 64) (l := [(0, .isl false ((aList_1).map enc_Event)), (1, I (aParties_2)), (2, I (aParty_3)), (3, str (aAction_4))]) (nx := 1) rfl rfl rfl) ?_
  unfold laws_FnExactCountActions at h
  refine s_seq rfl ?_
  refine s_reg rfl ?_
  refine o 17 (B (false)) rfl rfl (e_assign rfl) ?_
  refine s_ops ?_
  refine s_seq rfl ?_
  refine s_seq rfl ?_
  refine s_reg rfl ?_
  refine o 33 (str (aAction_4)) rfl rfl (e_move rfl) ?_
  refine o 49 (I ((len aAction_4))) rfl rfl (e_len rfl rfl rfl (l_str rfl)) ?_
  refine o 65 (B ((decide ((len aAction_4) > 1048576)))) rfl rfl (e_bin rfl rfl rfl) ?_
  refine s_ops ?_
  refine s_cond rfl rfl (fun hb => ?_) (fun hb => ?_)
  · replace h := cT hb h
    refine s_seq rfl ?_
    refine s_reg rfl ?_
    refine o 81 (B (true)) rfl rfl (e_assign rfl) ?_
    refine s_ops ?_
    obtain rfl := Option.some.inj h
    exact s_ret rfl (fin (vs := [B (true)]) rfl (absE (absorb_plain rfl) (absEN)) rfl rfl)
  · replace h := cF hb h
    refine s_skip rfl ?_
    refine s_seq rfl ?_
    refine s_reg rfl ?_
    refine o 81 (I (1048576)) rfl rfl (e_assign rfl) ?_
    refine s_ops ?_
    refine s_seq rfl ?_
    refine s_reg rfl ?_
    refine o 97 (.isl false ((aList_1).map enc_Event)) rfl rfl (e_move rfl) ?_
    refine o 113 (I (1048576)) rfl rfl (e_move rfl) ?_
    obtain ⟨r5, hr5, h⟩ := bS h
    refine o 129 (I (r5)) rfl rfl (e_callV rfl rfl (call_q rfl rfl rfl (avS (shP rfl) (avS (shP rfl) (avN))) (laws_szEventS_F hr5) rfl rfl rfl)) ?_
    refine o 145 (I (r5)) rfl rfl (e_assign rfl) ?_
    refine s_ops ?_
    refine s_seq rfl ?_
    refine s_seq rfl ?_
    refine s_reg rfl ?_
    refine o 161 (I (r5)) rfl rfl (e_move rfl) ?_
    refine o 177 (B ((decide (r5 < 0)))) rfl rfl (e_bin rfl rfl rfl) ?_
    refine s_ops ?_
    refine s_cond rfl rfl (fun hb => ?_) (fun hb => ?_)
    · replace h := cT hb h
      refine s_seq rfl ?_
      refine s_reg rfl ?_
      refine o 193 (B (true)) rfl rfl (e_assign rfl) ?_
      refine s_ops ?_
      obtain rfl := Option.some.inj h
      exact s_ret rfl (fin (vs := [B (true)]) rfl (absE (absorb_plain rfl) (absEN)) rfl rfl)
    · replace h := cF hb h
      refine s_skip rfl ?_
      refine s_seq rfl ?_
      refine s_reg rfl ?_
      refine o 193 (.isl false ((aList_1).map enc_Event)) rfl rfl (e_move rfl) ?_
      obtain ⟨r6, hr6, h⟩ := bS h
      refine o 209 (.hs 193 0 [] 4 0 (r6).length) rfl rfl (e_callV rfl rfl (call_R (ys := [.hs 193 0 [] 4 0 (r6).length]) (R := [(0, 0, ⟨0, 4, (r6).map enc_Event⟩)]) rfl rfl rfl (avS (shP rfl) (avN)) (laws_toEventS_F hr6) (by simp [hasImm, hasImms, himm_map enc_Event_himm]) (by simp [inst1s, inst1, instC, cells, comps]) rfl rfl)) ?_
      refine o 225 (I (aParties_2)) rfl rfl (e_move rfl) ?_
      refine o 241 (I (aParty_3)) rfl rfl (e_move rfl) ?_
      refine o 257 (str (aAction_4)) rfl rfl (e_move rfl) ?_
      obtain ⟨r7, hr7, h⟩ := bS h
      refine o 273 (.tup [I (r7.1), I (r7.2.1), B (r7.2.2)]) rfl rfl (e_callV rfl rfl (call_q rfl rfl rfl (avS (sh1 rfl rfl (sh_hs (f := enc_Event) (g := enc_Event) (xs := r6) rfl rfl (imms_of enc_Event_imm))) (avS (shP rfl) (avS (shP rfl) (avS (shP rfl) (avN))))) (spec_CountActions_F hr7) rfl rfl rfl)) ?_
      refine o 289 (.tup [I (r7.1), I (r7.2.1), B (r7.2.2)]) rfl rfl (e_move rfl) ?_
      refine o 305 (I (r7.1)) rfl rfl (e_extract rfl rfl) ?_
      refine o 321 (I (r7.2.1)) rfl rfl (e_extract rfl rfl) ?_
      refine o 337 (B (r7.2.2)) rfl rfl (e_extract rfl rfl) ?_
      refine o 353 (I (r7.1)) rfl rfl (e_assign rfl) ?_
      refine o 369 (I (r7.2.1)) rfl rfl (e_assign rfl) ?_
      refine o 385 (B (r7.2.2)) rfl rfl (e_assign rfl) ?_
      refine s_ops ?_
      refine s_seq rfl ?_
      refine s_reg rfl ?_
      refine o 401 (.isl false ((aList_1).map enc_Event)) rfl rfl (e_move rfl) ?_
      obtain ⟨r8, hr8, h⟩ := bS h
      refine o 417 (.hs 401 0 [] 4 0 (r8).length) rfl rfl (e_callV rfl rfl (call_R (ys := [.hs 401 0 [] 4 0 (r8).length]) (R := [(0, 0, ⟨0, 4, (r8).map enc_Event⟩)]) rfl rfl rfl (avS (shP rfl) (avN)) (laws_toEventS_F hr8) (by simp [hasImm, hasImms, himm_map enc_Event_himm]) (by simp [inst1s, inst1, instC, cells, comps]) rfl rfl)) ?_
      refine o 433 (.hs 401 0 [] 4 0 (r8).length) rfl rfl (e_assign rfl) ?_
      refine s_ops ?_
      refine s_seq rfl ?_
      refine s_reg rfl ?_
      refine o 449 (.hs 401 0 [] 4 0 (r8).length) rfl rfl (e_move rfl) ?_
      refine o 465 (I (aParties_2)) rfl rfl (e_move rfl) ?_
      refine o 481 (I (aParty_3)) rfl rfl (e_move rfl) ?_
      refine o 497 (str (aAction_4)) rfl rfl (e_move rfl) ?_
      obtain ⟨r9, hr9, h⟩ := bS h
      refine o 513 (.tup [I (r9.1), I (r9.2.1), B (r9.2.2)]) rfl rfl (e_callV rfl rfl (call_q rfl rfl rfl (avS (sh1 rfl rfl (sh_hs (f := enc_Event) (g := enc_Event) (xs := r8) rfl rfl (imms_of enc_Event_imm))) (avS (shP rfl) (avS (shP rfl) (avS (shP rfl) (avN))))) (impl_CountActions_F hr9) rfl rfl rfl)) ?_
      refine o 529 (.tup [I (r9.1), I (r9.2.1), B (r9.2.2)]) rfl rfl (e_move rfl) ?_
      refine o 545 (I (r9.1)) rfl rfl (e_extract rfl rfl) ?_
      refine o 561 (I (r9.2.1)) rfl rfl (e_extract rfl rfl) ?_
      refine o 577 (B (r9.2.2)) rfl rfl (e_extract rfl rfl) ?_
      refine o 593 (I (r9.1)) rfl rfl (e_assign rfl) ?_
      refine o 609 (I (r9.2.1)) rfl rfl (e_assign rfl) ?_
      refine o 625 (B (r9.2.2)) rfl rfl (e_assign rfl) ?_
      refine s_ops ?_
      refine s_seq rfl ?_
      refine s_seq rfl ?_
      refine s_reg rfl ?_
      refine o 641 (I (r9.1)) rfl rfl (e_move rfl) ?_
      refine o 657 (I (r7.1)) rfl rfl (e_move rfl) ?_
      refine o 673 (B ((r9.1 != r7.1))) rfl rfl (e_bin rfl rfl rfl) ?_
      refine o 689 (B ((r9.1 != r7.1))) rfl rfl (e_move rfl) ?_
      obtain ⟨u10, hu10, h⟩ := lJ h
      have j10 : Run laws_FnExactCountActions_E 0 (laws_FnExactCountActions_Q aList_1 aParties_2 aParty_3 aAction_4 r) (.code (cR (cL (cR (cR (cR (cR (cR (cR (cR (cR laws_FnExactCountActions_c)))))))))) :: .code (cR (cR (cR (cR (cR (cR (cR (cR (cR laws_FnExactCountActions_c))))))))) :: []) ⟨mkTm .dead 64 [(0, .isl false ((aList_1).map enc_Event)), (13, .hs 1 0 [] 4 0 (r8).length), (58, B (u10))], mkS (rtL [⟨0, 4, (r8).map enc_Event⟩] 1), 2⟩ := by
        refine s_cond rfl rfl (fun hb => ?_) (fun hb => ?_)
        · replace h := cT hb h
          refine s_seq rfl ?_
          refine s_reg rfl ?_
          refine o 18 (B (false)) rfl rfl (e_assign rfl) ?_
          refine s_ops ?_
          obtain rfl := Option.some.inj h
          exact s_ret rfl (fin (vs := [B (false)]) rfl (absE (absorb_plain rfl) (absEN)) rfl rfl)
        · replace h := cF hb h
          refine s_skip rfl ?_
          refine s_seq rfl ?_
          refine s_seq rfl ?_
          refine s_reg rfl ?_
          refine o 18 (.hs 1 0 [] 4 0 (r8).length) rfl rfl (e_move rfl) ?_
          refine o 34 (.isl false ((aList_1).map enc_Event)) rfl rfl (e_move rfl) ?_
          obtain ⟨r11, hr11, h⟩ := bS h
          refine o 50 (.hs 34 0 [] 4 0 (r11).length) rfl rfl (e_callV rfl rfl (call_R (ys := [.hs 34 0 [] 4 0 (r11).length]) (R := [(0, 0, ⟨0, 4, (r11).map enc_Event⟩)]) rfl rfl rfl (avS (shP rfl) (avN)) (laws_toEventS_F hr11) (by simp [hasImm, hasImms, himm_map enc_Event_himm]) (by simp [inst1s, inst1, instC, cells, comps]) rfl rfl)) ?_
          obtain ⟨r12, hr12, h⟩ := bS h
          refine o 66 (B (r12)) rfl rfl (e_callV rfl rfl (call_q rfl rfl rfl (avS (sh1 rfl rfl (sh_hs (f := enc_Event) (g := enc_Event) (xs := r8) rfl rfl (imms_of enc_Event_imm))) (avS (sh1 rfl rfl (sh_hs (f := enc_Event) (g := enc_Event) (xs := r11) rfl rfl (imms_of enc_Event_imm))) (avN))) (laws_eqEventS_F hr12) rfl rfl rfl)) ?_
          refine o 82 (B ((!r12))) rfl rfl (e_un rfl rfl) ?_
          refine s_ops ?_
          refine s_cond rfl rfl (fun hb => ?_) (fun hb => ?_)
          · replace h := cT hb h
            refine s_seq rfl ?_
            refine s_reg rfl ?_
            refine o 98 (B (false)) rfl rfl (e_assign rfl) ?_
            refine s_ops ?_
            obtain rfl := Option.some.inj h
            exact s_ret rfl (fin (vs := [B (false)]) rfl (absE (absorb_plain rfl) (absEN)) rfl rfl)
          · replace h := cF hb h
            refine s_skip rfl ?_
            refine s_seq rfl ?_
            refine s_reg rfl ?_
            refine o 98 (B (true)) rfl rfl (e_assign rfl) ?_
            refine s_ops ?_
            obtain rfl := Option.some.inj h
            exact s_ret rfl (fin (vs := [B (true)]) rfl (absE (absorb_plain rfl) (absEN)) rfl rfl)
      replace h := hu10
      clear hu10
      refine r_split (b := (r9.1 != r7.1)) 49 rfl (fun hb => ?_) (fun hb => ?_)
      · replace h := cTp hb h
        refine os 705 rfl rfl rfl rfl ?_
        refine os 721 rfl rfl rfl rfl ?_
        refine os 737 rfl rfl rfl rfl ?_
        refine o 753 (B (true)) rfl rfl (e_pickT rfl rfl) ?_
        refine o 769 (B (true)) rfl rfl (e_move rfl) ?_
        refine os 785 rfl rfl rfl rfl ?_
        refine os 801 rfl rfl rfl rfl ?_
        refine os 817 rfl rfl rfl rfl ?_
        refine o 833 (B (true)) rfl rfl (e_pickT rfl rfl) ?_
        refine s_ops ?_
        refine run_forget [0, 13, 58] [401] [⟨0, 4, (r8).map enc_Event⟩] rfl rfl rfl rfl ?_
        subst h
        exact j10
      · replace h := cFp hb h
        refine og 705 (I (r9.2.1)) rfl rfl rfl rfl (e_move rfl) ?_
        refine og 721 (I (r7.2.1)) rfl rfl rfl rfl (e_move rfl) ?_
        refine og 737 (B ((r9.2.1 != r7.2.1))) rfl rfl rfl rfl (e_bin rfl rfl rfl) ?_
        refine o 753 (B ((r9.2.1 != r7.2.1))) rfl rfl (e_pickF rfl rfl) ?_
        refine o 769 (B ((r9.2.1 != r7.2.1))) rfl rfl (e_move rfl) ?_
        obtain ⟨u13, hu13, h⟩ := lJ h
        have j13 : Run laws_FnExactCountActions_E 0 (laws_FnExactCountActions_Q aList_1 aParties_2 aParty_3 aAction_4 r) (.code (cR (cL (cR (cR (cR (cR (cR (cR (cR (cR laws_FnExactCountActions_c)))))))))) :: .code (cR (cR (cR (cR (cR (cR (cR (cR (cR laws_FnExactCountActions_c))))))))) :: []) ⟨mkTm .dead 64 [(0, .isl false ((aList_1).map enc_Event)), (13, .hs 1 0 [] 4 0 (r8).length), (58, B (u13))], mkS (rtL [⟨0, 4, (r8).map enc_Event⟩] 1), 2⟩ := by
          refine run_forget [0, 13, 58] [1] [⟨0, 4, (r8).map enc_Event⟩] rfl rfl rfl rfl ?_
          subst h
          exact j10
        replace h := hu13
        clear hu13
        refine r_split (b := (r9.2.1 != r7.2.1)) 54 rfl (fun hb => ?_) (fun hb => ?_)
        · replace h := cTp hb h
          refine os 785 rfl rfl rfl rfl ?_
          refine os 801 rfl rfl rfl rfl ?_
          refine os 817 rfl rfl rfl rfl ?_
          refine o 833 (B (true)) rfl rfl (e_pickT rfl rfl) ?_
          refine s_ops ?_
          refine run_forget [0, 13, 58] [401] [⟨0, 4, (r8).map enc_Event⟩] rfl rfl rfl rfl ?_
          subst h
          exact j13
        · replace h := cFp hb h
          refine og 785 (B (r9.2.2)) rfl rfl rfl rfl (e_move rfl) ?_
          refine og 801 (B (r7.2.2)) rfl rfl rfl rfl (e_move rfl) ?_
          refine og 817 (B ((!(r9.2.2 == r7.2.2)))) rfl rfl rfl rfl (e_bin rfl rfl rfl) ?_
          refine o 833 (B ((!(r9.2.2 == r7.2.2)))) rfl rfl (e_pickF rfl rfl) ?_
          refine s_ops ?_
          refine run_forget [0, 13, 58] [401] [⟨0, 4, (r8).map enc_Event⟩] rfl rfl rfl rfl ?_
          subst h
          exact j13
noncomputable def laws_FnExactCountActions_ent : Ent := ⟨[false, false, false, false], entF4 (decS enc_Event) (decBy I) (decBy I) (decBy str) fun aList_1 aParties_2 aParty_3 aAction_4 => (laws_FnExactCountActions aList_1 aParties_2 aParty_3 aAction_4).map fun r => (B (r), [])⟩
theorem laws_FnExactCountActions_F {aList_1 : List Event} {aParties_2 : Int} {aParty_3 : Int} {aAction_4 : Str} {r : Bool} (h : laws_FnExactCountActions aList_1 aParties_2 aParty_3 aAction_4 = some r) : laws_FnExactCountActions_ent.F [.isl false ((aList_1).map enc_Event), I (aParties_2), I (aParty_3), str (aAction_4)] = some (B (r), []) := by
  have e : laws_FnExactCountActions_ent.F [.isl false ((aList_1).map enc_Event), I (aParties_2), I (aParty_3), str (aAction_4)] = (laws_FnExactCountActions aList_1 aParties_2 aParty_3 aAction_4).map fun r => (B (r), []) := by
    simp only [laws_FnExactCountActions_ent, entF4, decS, dec_ok (isl_inj enc_Event_inj), dec_ok I_inj, dec_ok I_inj, dec_ok str_inj, Option.bind_some]
  refine Eq.trans ?_ ((congrArg (Option.map fun r => ((B (r) : V), ([] : List V))) h))
  exact e
theorem laws_FnExactCountActions_good {G : Go.Ln.Ground} (g13 : Good Tryd.prog G 13 laws_szEventS_ent) (g15 : Good Tryd.prog G 15 laws_toEventS_ent) (g18 : Good Tryd.prog G 18 spec_CountActions_ent) (g19 : Good Tryd.prog G 19 impl_CountActions_ent) (g17 : Good Tryd.prog G 17 laws_eqEventS_ent) : Good Tryd.prog G 4 laws_FnExactCountActions_ent := by
  refine good_of_run (E := laws_FnExactCountActions_E) (fnOf_good (by
    intro p hp
    simp only [List.mem_cons, List.not_mem_nil, or_false] at hp
    rcases hp with rfl | rfl | rfl | rfl | rfl
    · exact g13
    · exact g15
    · exact g18
    · exact g19
    · exact g17)) agree_mk (Checked.mixed Tryd.checked) Tryd.func4 (c := laws_FnExactCountActions_c) (n := 4) ⟨rfl, rfl, by decide⟩ ?_
  intro vs r os h
  obtain ⟨v0, v1, v2, v3, aList_1, aParties_2, aParty_3, aAction_4, rfl, q0, q1, q2, q3, h9⟩ := entI4 h
  obtain rfl := dec_of q0
  obtain rfl := dec_of q1
  obtain rfl := dec_of q2
  obtain rfl := dec_of q3
  obtain ⟨r1, hr1, he⟩ := Option.map_eq_some_iff.1 h9
  cases he
  exact ⟨rfl, laws_FnExactCountActions_run aList_1 aParties_2 aParty_3 aAction_4 r1 hr1⟩
end Go.Ln
