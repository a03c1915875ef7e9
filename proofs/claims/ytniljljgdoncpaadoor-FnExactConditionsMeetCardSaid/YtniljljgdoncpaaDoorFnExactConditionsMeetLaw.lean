/-
  ConditionsMeet of the program and of the reference return the same, for all conditions.
-/
import Derived.Test.YtniljljgdoncpaaDoorFnExactConditionsMeetPure
import Derived.Test.YtniljljgdoncpaaDoorFnExactConditionsMeetRunB
import Derived.Test.YtniljljgdoncpaaDoorCards
import Derived.Test.YtniljljgdoncpaaDoorTie
import Derived.OpenShut
import Derived.LaidMore
import Derived.Lay
import Derived.SevenTiedAt
import Derived.Stop.Joined
set_option maxHeartbeats 4000000
set_option linter.unusedVariables false
set_option linter.unusedSimpArgs false
set_option maxRecDepth 100000
namespace Go.Proofs.YtniljljgdoncpaaDoor
open Go Go.Ln Go.ChangeShapes Go.WideShapes Go.ChangeAt Go.RowKit
theorem Tryd.own : ownKnob Tryd.prog.godebug=none:=by kernel_rfl
theorem Tryd.laidOut : laidOutB Tryd.prog=true:=by kernel_rfl
theorem rd_Condition24F : ∀ N,RdF N Tryd.prog 24 encI_Condition Ffba:=by
  intro N
  induction N with
  | zero=>intro H enc w sp held n cs x hn h; omega
  | succ N ih =>
    intro H enc w sp held n cs x hn h
    obtain ⟨d,rfl,hl,hf⟩:=rdF_fields Tryd.underlying24 h
    obtain ⟨y0,h0⟩:=hf 0 _ rfl
    obtain ⟨a0,k0,m0,r0⟩:=(rd_int Tryd.underlying3) h0
    have r0 : R2 w _ ((cs.drop 0).take 1):=r0
    obtain ⟨y1,h1⟩:=hf 1 _ rfl
    obtain ⟨a1,k1,m1,r1⟩:=(rd_str Tryd.underlying9) h1
    have r1 : R2 w _ ((cs.drop 1).take 1):=r1
    obtain ⟨y2,h2⟩:=hf 2 _ rfl
    obtain ⟨a2,k2,m2,r2⟩:=(rd_int Tryd.underlying3) h2
    have r2 : R2 w _ ((cs.drop 2).take 1):=r2
    obtain ⟨y3,h3⟩:=hf 3 _ rfl
    obtain ⟨a3,k3,m3,r3⟩:=rdF_slice Tryd.underlying22 ih (of_decide_eq_true (by kernel_rfl)) (show d < N + 1 by omega) h3
    have r3 : R2 w _ ((cs.drop 3).take 1):=r3
    refine ⟨⟨a0,a1,a2,a3⟩,(Ffba_iff _).2 ⟨k0,k1,k2,k3⟩,?_,?_⟩
    · rw [encI_Condition_eq]; exact ⟨m0,m1,m2,m3,trivial⟩
    · rw [encI_Condition_eq]; exact rd_done (v:=encI_Condition1 ⟨a0,a1,a2,a3⟩) (ps:=[cells (I a0),cells (str a1),cells (I a2),cells (.isl false ((a3).map encI_Condition))]) rfl ⟨r0,r1,r2,r3,hl⟩
theorem rd_Condition24 : Rd Tryd.prog 24 encI_Condition Ffba:=rd_ofF rd_Condition24F
set_option maxRecDepth 100000 in
theorem fnExactConditionsMeet_lifted (os : Os) (started : os.Started) (H : Type) (enc : TypeId × Value → H) :
    ReturnsInHanded {} Tryd.checked os 3 .any (fun w args => (Rows.fnExactConditionsMeetSpec.pre enc Tryd.prog Tryd.f3 Rows.fnExactConditionsMeetRow.domain false w args ∧ laidMetH Tryd.prog Rows.fnExactConditionsMeetRow.laid w) ∧ sizedMet enc Tryd.prog Tryd.f3 (OpenSpec.ofChange Rows.fnExactConditionsMeetSpec) false w args)
      (Rows.fnExactConditionsMeetSpec.post enc Tryd.prog Tryd.f3 false true false false) := by
  refine returnsInHanded_of_change_and (C := Tryd.checked) (X := fun w _ => laidMetH Tryd.prog Rows.fnExactConditionsMeetRow.laid w) (fun _ _ _ hh h => h.of_heap hh) Tryd.own started (by kernel_rfl) Tryd.func3
    (ChangeSpec.witness_shaped (enc := enc) (C := Tryd.checked) (os := os) (X := fun w _ => laidMetH Tryd.prog Rows.fnExactConditionsMeetRow.laid w) false (World.laidAll Tryd.prog os Rows.fnExactConditionsMeetRow.laid) #[.agg #[.int .i64 0, .string ⟨#[]⟩, .int .i64 0, .slice none 0 0], .agg #[.int .i64 0, .string ⟨#[]⟩, .int .i64 0, .slice none 0 0]] 8 (World.laidAll_os _ _ _)
      (World.shaped_of_ZipB (by kernel_rfl) (by kernel_rfl)) (by kernel_rfl) (by kernel_rfl) (by kernel_rfl)
      (by rw [MakeChecks.laidMetH_plain _ _ _ (by kernel_rfl)]; exact laidMet_laidAll _ (by kernel_rfl) (by kernel_rfl))) ?_
  intro W base args ds gs before hval0 hW _ _ hL _
  have hval : ∀ (j : Nat) t v, Tryd.f3.params[j]? = some t → args[j]? = some v → Value.okWide Tryd.prog W .any base t v := hval0
  have hW0 := hW
  obtain ⟨p, q, hA0, _, _, _, _⟩ := hW
  have hA : DataW.TrodAll enc Tryd.prog W 0 (fun _ => true) true Tryd.f3.params.toList args.toList ds p := hA0
  obtain ⟨vs, hg, hF⟩ : ∃ vs, Given Tryd.prog W Tryd.f3.params.toList vs args.toList ∧ laws_FnExactConditionsMeet_ent.F vs = some (B true, []) := by
    rw [Tryd.params3] at hA hval
    obtain ⟨v0, v1, d0, d1, p0, p1, rfl, rfl, rfl, h0, h1⟩ := trodAll_two hA
    obtain ⟨x0, k0, g0⟩ := arg_agg Tryd.underlying24 rd_Condition24 (fun x => by rw [encI_Condition_eq]; rfl) (hval 0 24 v0 rfl rfl) h0
    rw [encI_Condition_eq x0] at g0
    obtain ⟨x1, k1, g1⟩ := arg_agg Tryd.underlying24 rd_Condition24 (fun x => by rw [encI_Condition_eq]; rfl) (hval 1 24 v1 rfl rfl) h1
    rw [encI_Condition_eq x1] at g1
    refine ⟨[encI_Condition1 x0, encI_Condition1 x1], ?_, laws_FnExactConditionsMeet_F (law_FnExactConditionsMeet x0 k0 x1 k1)⟩
    rw [Tryd.params3]
    exact ⟨g0, g1, trivial⟩
  refine (calls_of_good (P := Tryd.prog) Tryd.func3 (c := laws_FnExactConditionsMeet_c) (n := 2) ⟨rfl, rfl, by decide⟩ laws_FnExactConditionsMeet_good hg hF).mono fun e W' ⟨he, hB⟩ => ⟨_, he, ?_⟩
  refine post_law Tryd.laidOut (tb := 4) ?_ rfl Tryd.underlying4 rfl ?_ hW0 hB
  · have h0 : ∀ t ∈ ([24, 24] : List TypeId), Tryd.prog.readableRec t = true ∧ t < Tryd.prog.types.size := by
      intro t ht
      simp only [List.mem_cons, List.not_mem_nil, or_false] at ht
      rcases ht with rfl | rfl

      all_goals exact ⟨by kernel_rfl, of_decide_eq_true (by kernel_rfl)⟩
    exact h0
  · intro ds hd
    match ds, hd with
    | [d0, d1], _ => rfl
theorem fnExactConditionsMeet_holds : Rows.FnExactConditionsMeetSaid :=
  OpenClaim.holds_of_wide 3 Tryd.f3 rfl rfl rfl rfl rfl rfl rfl ⟨rfl,rfl,rfl,rfl,rfl⟩ rfl rfl rfl rfl rfl (by kernel_rfl) Tryd.func3 (by kernel_rfl)
    (of_decide_eq_true (by kernel_rfl)) (by unfold Func.isWrapper; first | (rw [if_pos (by decide +kernel)]; kernel_rfl) | (rw [if_neg (by decide +kernel)]; exact ⟨rfl,rfl⟩))
    (fun os started H enc _=>fnExactConditionsMeet_lifted os started H enc)
theorem fnExactConditionsMeet_card : Rows.FnExactConditionsMeetCardSaid :=
  Claim7.holds_tied_plain_at .later [] [.data, .pinned] true (true, "b31bf5b8a880cab66be4b30fa0a2327d4bab9ac36f0f56d3f95138d75365a032") true
    fnExactConditionsMeet_holds (fun _ h => by cases h) (by kernel_rfl) (fun _ h => by cases h) fnExactConditionsMeet_row_tie rfl ⟨rfl, rfl⟩ (by kernel_rfl) rfl
    (fun f fn hf hfn => by
      obtain rfl : f = 3 := Option.some.inj ((show Tryd.prog.funcNamed "loop.example/g00902/laws.FnExactConditionsMeet" = some 3 by kernel_rfl).symm.trans hf) |>.symm
      obtain rfl : fn = Tryd.f3 := (Option.some.inj (Tryd.func3.symm.trans hfn)).symm
      exact ⟨by kernel_rfl, fun j t ht => by
        rw [Tryd.params3] at ht
        have hm : t ∈ [24, 24] := by simpa using Array.mem_of_getElem? ht
        have hall : ([24, 24].all fun u => !Tryd.prog.wantsStandIn u) = true := by kernel_rfl
        exact (show Tryd.prog.wantsStandIn t = false by simpa using List.all_eq_true.1 hall t hm)⟩)
    (by kernel_rfl)
end Go.Proofs.YtniljljgdoncpaaDoor
