/-
  The law FnExactCountActions returns true at every input: the program's CountActions answers as the specification's does. Condition: Go's own tables in package unicode/utf8 read as the program's text lays them (the tied card).
-/
import Derived.Test.YtgcnameabpnpaaaDoorFnExactCountActionsPure
import Derived.Test.YtgcnameabpnpaaaDoorFnExactCountActionsRun
import Derived.Test.YtgcnameabpnpaaaDoorCards
import Derived.Test.YtgcnameabpnpaaaDoorTie
import Derived.OpenShut
import Derived.LaidMore
import Derived.Lay
import Derived.SevenTiedAt
import Derived.Stop.Joined
set_option linter.unusedVariables false
set_option linter.unusedSimpArgs false
set_option maxRecDepth 100000
namespace Go.Proofs.YtgcnameabpnpaaaDoor
open Go Go.Ln Go.ChangeShapes Go.WideShapes Go.ChangeAt Go.RowKit
theorem Tryd.own : ownKnob Tryd.prog.godebug = none := by kernel_rfl
theorem Tryd.laidOut : laidOutB Tryd.prog = true := by kernel_rfl
theorem rd_Event44 : Rd Tryd.prog 44 enc_Event ok_Event := by
  intro H enc w sp held n cs x h
  obtain ⟨hl, hf⟩ := rd_fields Tryd.underlying44 h
  obtain ⟨n0, y0, h0⟩ := hf 0 _ rfl
  obtain ⟨a0, k0, m0, r0⟩ := (rd_int Tryd.underlying3) h0
  have r0 : R2 w _ ((cs.drop 0).take 1) := r0
  obtain ⟨n1, y1, h1⟩ := hf 1 _ rfl
  obtain ⟨a1, k1, m1, r1⟩ := (rd_int Tryd.underlying3) h1
  have r1 : R2 w _ ((cs.drop 1).take 1) := r1
  obtain ⟨n2, y2, h2⟩ := hf 2 _ rfl
  obtain ⟨a2, k2, m2, r2⟩ := (rd_str Tryd.underlying9) h2
  have r2 : R2 w _ ((cs.drop 2).take 1) := r2
  obtain ⟨n3, y3, h3⟩ := hf 3 _ rfl
  obtain ⟨a3, k3, m3, r3⟩ := (rd_int Tryd.underlying3) h3
  have r3 : R2 w _ ((cs.drop 3).take 1) := r3
  refine ⟨⟨a0, a1, a2, a3⟩, ⟨k0, k1, k2, k3⟩, ?_, rd_done (v := enc_Event ⟨a0, a1, a2, a3⟩) (ps := [cells (I a0), cells (I a1), cells (str a2), cells (I a3)]) rfl ⟨r0, r1, r2, r3, hl⟩⟩
  exact ⟨m0, m1, m2, m3, trivial⟩
set_option maxRecDepth 100000 in
theorem fnExactCountActions_lifted (os : Os) (started : os.Started) (H : Type) (enc : TypeId × Value → H) :
    ReturnsInHanded {} Tryd.checked os 4 .any (fun w args => (Rows.fnExactCountActionsSpec.pre enc Tryd.prog Tryd.f4 Rows.fnExactCountActionsRow.domain false w args ∧ laidMetH Tryd.prog Rows.fnExactCountActionsRow.laid w) ∧ sizedMet enc Tryd.prog Tryd.f4 (OpenSpec.ofChange Rows.fnExactCountActionsSpec) false w args)
      (Rows.fnExactCountActionsSpec.post enc Tryd.prog Tryd.f4 false true false false) := by
  refine returnsInHanded_of_change_and (C := Tryd.checked) (X := fun w _ => laidMetH Tryd.prog Rows.fnExactCountActionsRow.laid w) (fun _ _ _ hh h => h.of_heap hh) Tryd.own started (by kernel_rfl) Tryd.func4
    (ChangeSpec.witness_shaped (enc := enc) (C := Tryd.checked) (os := os) (X := fun w _ => laidMetH Tryd.prog Rows.fnExactCountActionsRow.laid w) false (World.laidAll Tryd.prog os Rows.fnExactCountActionsRow.laid) #[.slice none 0 0, .int .i64 0, .int .i64 0, .string ⟨#[]⟩] 8 (World.laidAll_os _ _ _)
      (World.shaped_of_ZipB (by kernel_rfl) (by kernel_rfl)) (by kernel_rfl) (by kernel_rfl) (by kernel_rfl)
      (by rw [MakeChecks.laidMetH_plain _ _ _ (by kernel_rfl)]; exact laidMet_laidAll _ (by kernel_rfl) (by kernel_rfl))) ?_
  intro W base args ds gs before hval0 hW _ _ hL _
  have hval : ∀ (j : Nat) t v, Tryd.f4.params[j]? = some t → args[j]? = some v → Value.okWide Tryd.prog W .any base t v := hval0
  have hW0 := hW
  obtain ⟨p, q, hA0, _, _, _, _⟩ := hW
  have hA : DataW.TrodAll enc Tryd.prog W 0 (fun _ => true) true Tryd.f4.params.toList args.toList ds p := hA0
  obtain ⟨vs, hg, hF⟩ : ∃ vs, Given Tryd.prog W Tryd.f4.params.toList vs args.toList ∧ laws_FnExactCountActions_ent.F vs = some (B true, []) := by
    rw [Tryd.params4] at hA hval
    obtain ⟨v0, v1, v2, v3, d0, d1, d2, d3, p0, p1, p2, p3, rfl, rfl, rfl, h0, h1, h2, h3⟩ := trodAll_four hA
    obtain ⟨x0, k0, g0⟩ := arg_slice Tryd.underlying22 (rd_Event44) (of_decide_eq_true (by kernel_rfl)) (hval 0 22 v0 rfl rfl) h0
    obtain ⟨x1, k1, g1⟩ := arg_int Tryd.underlying3 (hval 1 3 v1 rfl rfl) h1
    obtain ⟨x2, k2, g2⟩ := arg_int Tryd.underlying3 (hval 2 3 v2 rfl rfl) h2
    obtain ⟨x3, k3, g3⟩ := arg_str Tryd.underlying9 (hval 3 9 v3 rfl rfl) h3
    refine ⟨[.isl false (x0.map enc_Event), I x1, I x2, str x3], ?_, laws_FnExactCountActions_F (law_FnExactCountActions x0 k0 x1 k1 x2 k2 x3 k3)⟩
    rw [Tryd.params4]
    exact ⟨g0, g1, g2, g3, trivial⟩
  refine (calls_of_good (P := Tryd.prog) Tryd.func4 (c := laws_FnExactCountActions_c) (n := 4) ⟨rfl, rfl, by decide⟩ (laws_FnExactCountActions_good (laws_szEventS_good (laws_szEvent_good)) (laws_toEventS_good (laws_toEvent_good)) (spec_CountActions_good (spec_l8Good_good (spec_l8Compare_good) (spec_l8Valid_good (spec_l8Event_good (spec_l3Good_good (spec_l1In_good)) (spec_l1In_good) (spec_l5Name_good (spec_l1In_good) (spec_l5Sign_good))) (spec_l1In_good)))) (impl_CountActions_good (impl_IsValidEvents_good (impl_areEvents_good (impl_within_good) (slices_ContainsFunc_impl_Event_impl_Event_w_impl_areEvents_1_good (slices_IndexFunc_impl_Event_impl_Event_w_impl_areEvents_1_good (impl_areEvents_1_good (impl_isEvent_good (impl_isDay_good (impl_within_good)) (impl_within_good) (impl_IsValidName_good (impl_within_good) (strings_Split_good (strings_genSplit_good (strings_Index_good (internal_stringslite_Index_good (internal_stringslite_IndexByte_good (xIndexByteString_good)))) (strings_Count_good (xCountString_good) (strings_Index_good (internal_stringslite_Index_good (internal_stringslite_IndexByte_good (xIndexByteString_good))))))) (slices_Contains_string_string_good (slices_Index_string_string_good)))))))) (slices_IsSortedFunc_impl_Event_impl_Event_w_impl_CompareEvents_good (impl_CompareEvents_good (cmp_Compare_int_good (cmp_isNaN_int_good)) (cmp_Compare_string_good (cmp_isNaN_string_good)) (cmp_Or_int_good))))) (laws_eqEventS_good (laws_eqEvent_good))) hg hF).mono fun e W' ⟨he, hB⟩ => ⟨_, he, ?_⟩
  refine post_law Tryd.laidOut (tb := 4) ?_ rfl Tryd.underlying4 rfl ?_ hW0 hB
  · have h0 : ∀ t ∈ ([22, 3, 3, 9] : List TypeId), Tryd.prog.readableRec t = true ∧ t < Tryd.prog.types.size := by
      intro t ht
      simp only [List.mem_cons, List.not_mem_nil, or_false] at ht
      rcases ht with rfl | rfl | rfl | rfl

      all_goals exact ⟨by kernel_rfl, of_decide_eq_true (by kernel_rfl)⟩
    exact h0
  · intro ds hd
    match ds, hd with
    | [d0, d1, d2, d3], _ => rfl
theorem fnExactCountActions_holds : Rows.FnExactCountActionsSaid :=
  OpenClaim.holds_of_wide 4 Tryd.f4 rfl rfl rfl rfl rfl rfl rfl ⟨rfl, rfl, rfl, rfl, rfl⟩ rfl rfl rfl rfl rfl (by kernel_rfl) Tryd.func4 (by kernel_rfl)
    (of_decide_eq_true (by kernel_rfl)) (by unfold Func.isWrapper; first | (rw [if_pos (by decide +kernel)]; kernel_rfl) | (rw [if_neg (by decide +kernel)]; exact ⟨rfl, rfl⟩))
    (fun os started H enc _ => fnExactCountActions_lifted os started H enc)
theorem fnExactCountActions_card : Rows.FnExactCountActionsCardSaid :=
  Claim7.holds_tied_plain_at .later [] [.data, .pinned] true (true, "406c3948e2131a8be68dfc70b02e1f6ee66806a54ed0eb20642d1c9af4c7d601") false
    fnExactCountActions_holds (fun _ h => by cases h) (by kernel_rfl) (fun _ h => by cases h) fnExactCountActions_row_tie rfl ⟨rfl, rfl⟩ (by kernel_rfl) rfl
    (fun f fn hf hfn => by
      obtain rfl : f = 4 := Option.some.inj ((show Tryd.prog.funcNamed "loop.example/g00902/laws.FnExactCountActions" = some 4 by kernel_rfl).symm.trans hf) |>.symm
      obtain rfl : fn = Tryd.f4 := (Option.some.inj (Tryd.func4.symm.trans hfn)).symm
      exact ⟨by kernel_rfl, fun j t ht => by
        rw [Tryd.params4] at ht
        have hm : t ∈ [22, 3, 3, 9] := by simpa using Array.mem_of_getElem? ht
        have hall : ([22, 3, 3, 9].all fun u => !Tryd.prog.wantsStandIn u) = true := by kernel_rfl
        exact (show Tryd.prog.wantsStandIn t = false by simpa using List.all_eq_true.1 hall t hm)⟩)
    (by kernel_rfl)
end Go.Proofs.YtgcnameabpnpaaaDoor
