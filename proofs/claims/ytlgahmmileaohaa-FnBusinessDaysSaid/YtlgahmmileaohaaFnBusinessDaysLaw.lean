/-
  The law FnBusinessDays returns true at every input: of what the program draws from a seed, adding business days passes as many of them, and a joined calendar is open where both calendars are. No condition.
-/
import Derived.Test.YtlgahmmileaohaaFnBusinessDaysPure
import Derived.Test.YtlgahmmileaohaaFnBusinessDaysRunB
import Derived.Test.YtlgahmmileaohaaRows
set_option maxHeartbeats 4000000
set_option linter.unusedVariables false
set_option linter.unusedSimpArgs false
set_option maxRecDepth 100000
namespace Go.Proofs.Ytlgahmmileaohaa
open Go Go.Ln Go.ChangeShapes Go.WideShapes Go.ChangeAt Go.RowKit
theorem Try.own : ownKnob Try.prog.godebug=none:=by kernel_rfl
theorem Try.laidOut : laidOutB Try.prog=true:=by kernel_rfl

set_option maxRecDepth 100000 in
theorem fnBusinessDays_lifted (os : Os) (started : os.Started) (H : Type) (enc : TypeId × Value → H) :
    ReturnsInHanded {} Try.checked os 4 .any (Rows.fnBusinessDaysSpec.pre6 enc Try.prog Try.f4 Rows.fnBusinessDaysRow.domain false) (Rows.fnBusinessDaysSpec.post enc Try.prog Try.f4 false true false false) := by
  refine returnsInHanded_of_change (C := Try.checked) Try.own started (by kernel_rfl) Try.func4
    (ChangeSpec.witness6 (enc := enc) (C := Try.checked) false ⟨#[], #[.slice none 0 0], []⟩ 8 (by kernel_rfl) (by kernel_rfl) (by kernel_rfl) (by kernel_rfl)) ?_
  intro W base args ds gs before hval0 hW _ _
  have hval : ∀ (j : Nat) t v, Try.f4.params[j]? = some t → args[j]? = some v → Value.okWide Try.prog W .any base t v := hval0
  have hW0 := hW
  obtain ⟨p, q, hA0, _, _, _, _⟩ := hW
  have hA : DataW.TrodAll enc Try.prog W 0 (fun _ => true) true Try.f4.params.toList args.toList ds p := hA0
  obtain ⟨vs, hg, hF⟩ : ∃ vs, Given Try.prog W Try.f4.params.toList vs args.toList ∧ laws_FnBusinessDays_ent.F vs = some (B true, []) := by
    rw [Try.params4] at hA hval
    obtain ⟨v0, d0, rfl, rfl, h0⟩ := trodAll_one hA
    obtain ⟨x0, k0, g0⟩ := arg_slice Try.underlying22 (rd_intk Try.underlying5) (of_decide_eq_true (by kernel_rfl)) (hval 0 22 v0 rfl rfl) h0
    refine ⟨[.isl false (x0.map (V.int .u8))], ?_, laws_FnBusinessDays_F (law_FnBusinessDays x0 k0)⟩
    rw [Try.params4]
    exact ⟨g0, trivial⟩
  refine (calls_of_good (P := Try.prog) Try.func4 (c := laws_FnBusinessDays_c) (n := 1) ⟨rfl, rfl, by decide⟩ laws_FnBusinessDays_good hg hF).mono fun e W' ⟨he, hB⟩ => ⟨_, he, ?_⟩
  refine post_law Try.laidOut (tb := 4) ?_ rfl Try.underlying4 rfl ?_ hW0 hB
  · have h0 : ∀ t ∈ ([22] : List TypeId), Try.prog.readableRec t = true ∧ t < Try.prog.types.size := by
      intro t ht
      simp only [List.mem_cons, List.not_mem_nil, or_false] at ht
      subst ht

      all_goals exact ⟨by kernel_rfl, of_decide_eq_true (by kernel_rfl)⟩
    exact h0
  · intro ds hd
    match ds, hd with
    | [d0], _ => rfl
theorem fnBusinessDays_holds : Rows.FnBusinessDaysSaid :=
  OpenClaim.holds_of_wide 4 Try.f4 rfl rfl rfl rfl rfl rfl rfl ⟨rfl,rfl,rfl,rfl,rfl⟩ rfl rfl rfl rfl rfl (by kernel_rfl) Try.func4 (by kernel_rfl)
    (of_decide_eq_true (by kernel_rfl)) (by unfold Func.isWrapper; first | (rw [if_pos (by decide +kernel)]; kernel_rfl) | (rw [if_neg (by decide +kernel)]; exact ⟨rfl,rfl⟩))
    (fun os started H enc _=>fnBusinessDays_lifted os started H enc)
end Go.Proofs.Ytlgahmmileaohaa
