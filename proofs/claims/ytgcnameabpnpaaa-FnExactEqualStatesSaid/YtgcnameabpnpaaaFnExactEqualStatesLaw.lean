/-
  The law FnExactEqualStates returns true at every input: the program's EqualStates answers as the specification's does. No condition.
-/
import Derived.Test.YtgcnameabpnpaaaFnExactEqualStatesPure
import Derived.Test.YtgcnameabpnpaaaFnExactEqualStatesRun
import Derived.Test.YtgcnameabpnpaaaRows
set_option linter.unusedVariables false
set_option linter.unusedSimpArgs false
set_option maxRecDepth 100000
namespace Go.Proofs.Ytgcnameabpnpaaa
open Go Go.Ln Go.ChangeShapes Go.WideShapes Go.ChangeAt Go.RowKit
theorem Try.own : ownKnob Try.prog.godebug = none := by kernel_rfl
theorem Try.laidOut : laidOutB Try.prog = true := by kernel_rfl
theorem rd_Duty58 : Rd Try.prog 58 enc_Duty ok_Duty := by
  intro H enc w sp held n cs x h
  obtain ⟨hl, hf⟩ := rd_fields Try.underlying58 h
  obtain ⟨n0, y0, h0⟩ := hf 0 _ rfl
  obtain ⟨a0, k0, m0, r0⟩ := (rd_int Try.underlying3) h0
  have r0 : R2 w _ ((cs.drop 0).take 1) := r0
  obtain ⟨n1, y1, h1⟩ := hf 1 _ rfl
  obtain ⟨a1, k1, m1, r1⟩ := (rd_int Try.underlying3) h1
  have r1 : R2 w _ ((cs.drop 1).take 1) := r1
  obtain ⟨n2, y2, h2⟩ := hf 2 _ rfl
  obtain ⟨a2, k2, m2, r2⟩ := (rd_int Try.underlying3) h2
  have r2 : R2 w _ ((cs.drop 2).take 1) := r2
  obtain ⟨n3, y3, h3⟩ := hf 3 _ rfl
  obtain ⟨a3, k3, m3, r3⟩ := (rd_int Try.underlying3) h3
  have r3 : R2 w _ ((cs.drop 3).take 1) := r3
  refine ⟨⟨a0, a1, a2, a3⟩, ⟨k0, k1, k2, k3⟩, ?_, rd_done (v := enc_Duty ⟨a0, a1, a2, a3⟩) (ps := [cells (I a0), cells (I a1), cells (I a2), cells (I a3)]) rfl ⟨r0, r1, r2, r3, hl⟩⟩
  exact ⟨m0, m1, m2, m3, trivial⟩
theorem rd_State33 : Rd Try.prog 33 encI_State ok_State := by
  intro H enc w sp held n cs x h
  obtain ⟨hl, hf⟩ := rd_fields Try.underlying33 h
  obtain ⟨n0, y0, h0⟩ := hf 0 _ rfl
  obtain ⟨a0, k0, m0, r0⟩ := (rd_int Try.underlying3) h0
  have r0 : R2 w _ ((cs.drop 0).take 1) := r0
  obtain ⟨n1, y1, h1⟩ := hf 1 _ rfl
  obtain ⟨a1, k1, m1, r1⟩ := (rd_slice Try.underlying29 (rd_str Try.underlying9) (of_decide_eq_true (by kernel_rfl))) h1
  have r1 : R2 w _ ((cs.drop 1).take 1) := r1
  obtain ⟨n2, y2, h2⟩ := hf 2 _ rfl
  obtain ⟨a2, k2, m2, r2⟩ := (rd_slice Try.underlying30 (rd_Duty58) (of_decide_eq_true (by kernel_rfl))) h2
  have r2 : R2 w _ ((cs.drop 2).take 1) := r2
  obtain ⟨n3, y3, h3⟩ := hf 3 _ rfl
  obtain ⟨a3, k3, m3, r3⟩ := (rd_slice Try.underlying31 (rd_int Try.underlying3) (of_decide_eq_true (by kernel_rfl))) h3
  have r3 : R2 w _ ((cs.drop 3).take 1) := r3
  obtain ⟨n4, y4, h4⟩ := hf 4 _ rfl
  obtain ⟨a4, k4, m4, r4⟩ := (rd_bool Try.underlying4) h4
  have r4 : R2 w _ ((cs.drop 4).take 1) := r4
  refine ⟨⟨a0, a1, a2, a3, a4⟩, ⟨k0, k1, k2, k3, k4⟩, ?_, rd_done (v := encI_State ⟨a0, a1, a2, a3, a4⟩) (ps := [cells (I a0), cells (.isl false ((a1).map str)), cells (.isl false ((a2).map enc_Duty)), cells (.isl false ((a3).map I)), cells (B a4)]) rfl ⟨r0, r1, r2, r3, r4, hl⟩⟩
  exact ⟨m0, m1, m2, m3, m4, trivial⟩
set_option maxRecDepth 100000 in
theorem fnExactEqualStates_lifted (os : Os) (started : os.Started) (H : Type) (enc : TypeId × Value → H) :
    ReturnsInHanded {} Try.checked os 4 .any (Rows.fnExactEqualStatesSpec.pre6 enc Try.prog Try.f4 Rows.fnExactEqualStatesRow.domain false) (Rows.fnExactEqualStatesSpec.post enc Try.prog Try.f4 false true false false) := by
  refine returnsInHanded_of_change (C := Try.checked) Try.own started (by kernel_rfl) Try.func4
    (ChangeSpec.witness6 (enc := enc) (C := Try.checked) false ⟨#[], #[.agg #[.int .i64 0, .slice none 0 0, .slice none 0 0, .slice none 0 0, .bool false], .agg #[.int .i64 0, .slice none 0 0, .slice none 0 0, .slice none 0 0, .bool false]], []⟩ 8 (by kernel_rfl) (by kernel_rfl) (by kernel_rfl) (by kernel_rfl)) ?_
  intro W base args ds gs before hval0 hW _ _
  have hval : ∀ (j : Nat) t v, Try.f4.params[j]? = some t → args[j]? = some v → Value.okWide Try.prog W .any base t v := hval0
  have hW0 := hW
  obtain ⟨p, q, hA0, _, _, _, _⟩ := hW
  have hA : DataW.TrodAll enc Try.prog W 0 (fun _ => true) true Try.f4.params.toList args.toList ds p := hA0
  obtain ⟨vs, hg, hF⟩ : ∃ vs, Given Try.prog W Try.f4.params.toList vs args.toList ∧ laws_FnExactEqualStates_ent.F vs = some (B true, []) := by
    rw [Try.params4] at hA hval
    obtain ⟨v0, v1, d0, d1, p0, p1, rfl, rfl, rfl, h0, h1⟩ := trodAll_two hA
    obtain ⟨x0, k0, g0⟩ := arg_agg Try.underlying33 rd_State33 (fun _ => rfl) (hval 0 33 v0 rfl rfl) h0
    obtain ⟨x1, k1, g1⟩ := arg_agg Try.underlying33 rd_State33 (fun _ => rfl) (hval 1 33 v1 rfl rfl) h1
    refine ⟨[encI_State x0, encI_State x1], ?_, laws_FnExactEqualStates_F (law_FnExactEqualStates x0 k0 x1 k1)⟩
    rw [Try.params4]
    exact ⟨g0, g1, trivial⟩
  refine (calls_of_good (P := Try.prog) Try.func4 (c := laws_FnExactEqualStates_c) (n := 2) ⟨rfl, rfl, by decide⟩ (laws_FnExactEqualStates_good (laws_szState_good (laws_szStringS_good) (laws_szDutyS_good) (laws_szIntS_good)) (laws_toState_good (laws_toStringS_good) (laws_toDutyS_good (laws_toDuty_good)) (laws_toIntS_good)) (spec_EqualStates_good (spec_l9Same_good (spec_l1Same_good))) (impl_EqualStates_good (slices_Equal_string_string_good) (slices_Equal_impl_Duty_impl_Duty_good) (slices_Equal_int_int_good)) (laws_eqState_good (laws_eqStringS_good) (laws_eqDutyS_good (laws_eqDuty_good)) (laws_eqIntS_good))) hg hF).mono fun e W' ⟨he, hB⟩ => ⟨_, he, ?_⟩
  refine post_law Try.laidOut (tb := 4) ?_ rfl Try.underlying4 rfl ?_ hW0 hB
  · have h0 : ∀ t ∈ ([33, 33] : List TypeId), Try.prog.readableRec t = true ∧ t < Try.prog.types.size := by
      intro t ht
      simp only [List.mem_cons, List.not_mem_nil, or_false, or_self] at ht
      subst ht

      all_goals exact ⟨by kernel_rfl, of_decide_eq_true (by kernel_rfl)⟩
    exact h0
  · intro ds hd
    match ds, hd with
    | [d0, d1], _ => rfl
theorem fnExactEqualStates_holds : Rows.FnExactEqualStatesSaid :=
  OpenClaim.holds_of_wide 4 Try.f4 rfl rfl rfl rfl rfl rfl rfl ⟨rfl, rfl, rfl, rfl, rfl⟩ rfl rfl rfl rfl rfl (by kernel_rfl) Try.func4 (by kernel_rfl)
    (of_decide_eq_true (by kernel_rfl)) (by unfold Func.isWrapper; first | (rw [if_pos (by decide +kernel)]; kernel_rfl) | (rw [if_neg (by decide +kernel)]; exact ⟨rfl, rfl⟩))
    (fun os started H enc _ => fnExactEqualStates_lifted os started H enc)
end Go.Proofs.Ytgcnameabpnpaaa
