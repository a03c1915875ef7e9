/-
  The law FnExactCompareEvents returns true at every input: the program's CompareEvents answers as the specification's does. No condition.
-/
import Derived.Test.YtgcnameabpnpaaaFnExactCompareEventsPure
import Derived.Test.YtgcnameabpnpaaaFnExactCompareEventsRun
import Derived.Test.YtgcnameabpnpaaaRows
set_option linter.unusedVariables false
set_option linter.unusedSimpArgs false
set_option maxRecDepth 100000
namespace Go.Proofs.Ytgcnameabpnpaaa
open Go Go.Ln Go.ChangeShapes Go.WideShapes Go.ChangeAt Go.RowKit
theorem Try.own : ownKnob Try.prog.godebug = none := by kernel_rfl
theorem Try.laidOut : laidOutB Try.prog = true := by kernel_rfl
theorem rd_Event23 : Rd Try.prog 23 enc_Event ok_Event := by
  intro H enc w sp held n cs x h
  obtain ⟨hl, hf⟩ := rd_fields Try.underlying23 h
  obtain ⟨n0, y0, h0⟩ := hf 0 _ rfl
  obtain ⟨a0, k0, m0, r0⟩ := (rd_int Try.underlying3) h0
  have r0 : R2 w _ ((cs.drop 0).take 1) := r0
  obtain ⟨n1, y1, h1⟩ := hf 1 _ rfl
  obtain ⟨a1, k1, m1, r1⟩ := (rd_int Try.underlying3) h1
  have r1 : R2 w _ ((cs.drop 1).take 1) := r1
  obtain ⟨n2, y2, h2⟩ := hf 2 _ rfl
  obtain ⟨a2, k2, m2, r2⟩ := (rd_str Try.underlying9) h2
  have r2 : R2 w _ ((cs.drop 2).take 1) := r2
  obtain ⟨n3, y3, h3⟩ := hf 3 _ rfl
  obtain ⟨a3, k3, m3, r3⟩ := (rd_int Try.underlying3) h3
  have r3 : R2 w _ ((cs.drop 3).take 1) := r3
  refine ⟨⟨a0, a1, a2, a3⟩, ⟨k0, k1, k2, k3⟩, ?_, rd_done (v := enc_Event ⟨a0, a1, a2, a3⟩) (ps := [cells (I a0), cells (I a1), cells (str a2), cells (I a3)]) rfl ⟨r0, r1, r2, r3, hl⟩⟩
  exact ⟨m0, m1, m2, m3, trivial⟩
set_option maxRecDepth 100000 in
theorem fnExactCompareEvents_lifted (os : Os) (started : os.Started) (H : Type) (enc : TypeId × Value → H) :
    ReturnsInHanded {} Try.checked os 3 .any (Rows.fnExactCompareEventsSpec.pre6 enc Try.prog Try.f3 Rows.fnExactCompareEventsRow.domain false) (Rows.fnExactCompareEventsSpec.post enc Try.prog Try.f3 false true false false) := by
  refine returnsInHanded_of_change (C := Try.checked) Try.own started (by kernel_rfl) Try.func3
    (ChangeSpec.witness6 (enc := enc) (C := Try.checked) false ⟨#[], #[.agg #[.int .i64 0, .int .i64 0, .string ⟨#[]⟩, .int .i64 0], .agg #[.int .i64 0, .int .i64 0, .string ⟨#[]⟩, .int .i64 0]], []⟩ 8 (by kernel_rfl) (by kernel_rfl) (by kernel_rfl) (by kernel_rfl)) ?_
  intro W base args ds gs before hval0 hW _ _
  have hval : ∀ (j : Nat) t v, Try.f3.params[j]? = some t → args[j]? = some v → Value.okWide Try.prog W .any base t v := hval0
  have hW0 := hW
  obtain ⟨p, q, hA0, _, _, _, _⟩ := hW
  have hA : DataW.TrodAll enc Try.prog W 0 (fun _ => true) true Try.f3.params.toList args.toList ds p := hA0
  obtain ⟨vs, hg, hF⟩ : ∃ vs, Given Try.prog W Try.f3.params.toList vs args.toList ∧ laws_FnExactCompareEvents_ent.F vs = some (B true, []) := by
    rw [Try.params3] at hA hval
    obtain ⟨v0, v1, d0, d1, p0, p1, rfl, rfl, rfl, h0, h1⟩ := trodAll_two hA
    obtain ⟨x0, k0, g0⟩ := arg_agg Try.underlying23 rd_Event23 (fun _ => rfl) (hval 0 23 v0 rfl rfl) h0
    obtain ⟨x1, k1, g1⟩ := arg_agg Try.underlying23 rd_Event23 (fun _ => rfl) (hval 1 23 v1 rfl rfl) h1
    refine ⟨[enc_Event x0, enc_Event x1], ?_, laws_FnExactCompareEvents_F (law_FnExactCompareEvents x0 k0 x1 k1)⟩
    rw [Try.params3]
    exact ⟨g0, g1, trivial⟩
  refine (calls_of_good (P := Try.prog) Try.func3 (c := laws_FnExactCompareEvents_c) (n := 2) ⟨rfl, rfl, by decide⟩ (laws_FnExactCompareEvents_good (laws_szEvent_good) (laws_toEvent_good) (spec_CompareEvents_good (spec_l8Compare_good)) (impl_CompareEvents_good (cmp_Compare_int_good (cmp_isNaN_int_good)) (cmp_Compare_string_good (cmp_isNaN_string_good)) (cmp_Or_int_good))) hg hF).mono fun e W' ⟨he, hB⟩ => ⟨_, he, ?_⟩
  refine post_law Try.laidOut (tb := 4) ?_ rfl Try.underlying4 rfl ?_ hW0 hB
  · have h0 : ∀ t ∈ ([23, 23] : List TypeId), Try.prog.readableRec t = true ∧ t < Try.prog.types.size := by
      intro t ht
      simp only [List.mem_cons, List.not_mem_nil, or_false, or_self] at ht
      subst ht

      all_goals exact ⟨by kernel_rfl, of_decide_eq_true (by kernel_rfl)⟩
    exact h0
  · intro ds hd
    match ds, hd with
    | [d0, d1], _ => rfl
theorem fnExactCompareEvents_holds : Rows.FnExactCompareEventsSaid :=
  OpenClaim.holds_of_wide 3 Try.f3 rfl rfl rfl rfl rfl rfl rfl ⟨rfl, rfl, rfl, rfl, rfl⟩ rfl rfl rfl rfl rfl (by kernel_rfl) Try.func3 (by kernel_rfl)
    (of_decide_eq_true (by kernel_rfl)) (by unfold Func.isWrapper; first | (rw [if_pos (by decide +kernel)]; kernel_rfl) | (rw [if_neg (by decide +kernel)]; exact ⟨rfl, rfl⟩))
    (fun os started H enc _ => fnExactCompareEvents_lifted os started H enc)
end Go.Proofs.Ytgcnameabpnpaaa
