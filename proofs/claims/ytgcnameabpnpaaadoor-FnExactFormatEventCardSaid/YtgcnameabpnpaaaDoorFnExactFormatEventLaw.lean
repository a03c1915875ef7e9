/-
  The law FnExactFormatEvent returns true at every input: the program's FormatEvent answers as the specification's does. Condition: Go's own tables in packages unicode/utf8, internal/strconv and math/bits read as the program's text lays them (the tied card).
-/
import Derived.Test.YtgcnameabpnpaaaDoorFnExactFormatEventPure
import Derived.Test.YtgcnameabpnpaaaDoorFnExactFormatEventRun
import Derived.Test.YtgcnameabpnpaaaDoorCards
import Derived.Test.YtgcnameabpnpaaaDoorTie
import Derived.OpenShut
import Derived.LaidMore
import Derived.Lay
import Derived.SevenTiedAt
import Derived.Stop.Joined
set_option maxHeartbeats 4000000
set_option linter.unusedVariables false
set_option linter.unusedSimpArgs false
set_option maxRecDepth 100000
namespace Go.Proofs.YtgcnameabpnpaaaDoor
open Go Go.Ln Go.ChangeShapes Go.WideShapes Go.ChangeAt Go.RowKit
theorem Tryd.own : ownKnob Tryd.prog.godebug=none:=by kernel_rfl
theorem Tryd.laidOut : laidOutB Tryd.prog=true:=by kernel_rfl
theorem rd_Event44 : Rd Tryd.prog 44 enc_Event ok_Event:=by
  intro H enc w sp held n cs x h
  obtain ⟨hl,hf⟩:=rd_fields Tryd.underlying44 h
  obtain ⟨n0,y0,h0⟩:=hf 0 _ rfl
  obtain ⟨a0,k0,m0,r0⟩:=(rd_int Tryd.underlying3) h0
  have r0 : R2 w _ ((cs.drop 0).take 1):=r0
  obtain ⟨n1,y1,h1⟩:=hf 1 _ rfl
  obtain ⟨a1,k1,m1,r1⟩:=(rd_int Tryd.underlying3) h1
  have r1 : R2 w _ ((cs.drop 1).take 1):=r1
  obtain ⟨n2,y2,h2⟩:=hf 2 _ rfl
  obtain ⟨a2,k2,m2,r2⟩:=(rd_str Tryd.underlying9) h2
  have r2 : R2 w _ ((cs.drop 2).take 1):=r2
  obtain ⟨n3,y3,h3⟩:=hf 3 _ rfl
  obtain ⟨a3,k3,m3,r3⟩:=(rd_int Tryd.underlying3) h3
  have r3 : R2 w _ ((cs.drop 3).take 1):=r3
  refine ⟨⟨a0,a1,a2,a3⟩,⟨k0,k1,k2,k3⟩,?_,rd_done (v:=enc_Event ⟨a0,a1,a2,a3⟩) (ps:=[cells (I a0),cells (I a1),cells (str a2),cells (I a3)]) rfl ⟨r0,r1,r2,r3,hl⟩⟩
  exact ⟨m0,m1,m2,m3,trivial⟩
set_option maxRecDepth 100000 in
theorem fnExactFormatEvent_lifted (os : Os) (started : os.Started) (H : Type) (enc : TypeId × Value → H) :
    ReturnsInHanded {} Tryd.checked os 8 .any (fun w args => (Rows.fnExactFormatEventSpec.pre enc Tryd.prog Tryd.f8 Rows.fnExactFormatEventRow.domain false w args ∧ laidMetH Tryd.prog Rows.fnExactFormatEventRow.laid w) ∧ sizedMet enc Tryd.prog Tryd.f8 (OpenSpec.ofChange Rows.fnExactFormatEventSpec) false w args)
      (Rows.fnExactFormatEventSpec.post enc Tryd.prog Tryd.f8 false true false false) := by
  refine returnsInHanded_of_change_and (C := Tryd.checked) (X := fun w _ => laidMetH Tryd.prog Rows.fnExactFormatEventRow.laid w) (fun _ _ _ hh h => h.of_heap hh) Tryd.own started (by kernel_rfl) Tryd.func8
    (ChangeSpec.witness_shaped (enc := enc) (C := Tryd.checked) (os := os) (X := fun w _ => laidMetH Tryd.prog Rows.fnExactFormatEventRow.laid w) false (World.laidAll Tryd.prog os Rows.fnExactFormatEventRow.laid) #[.agg #[.int .i64 0, .int .i64 0, .string ⟨#[]⟩, .int .i64 0], .slice none 0 0] 8 (World.laidAll_os _ _ _)
      (World.shaped_of_ZipB (by kernel_rfl) (by kernel_rfl)) (by kernel_rfl) (by kernel_rfl) (by kernel_rfl)
      (by rw [MakeChecks.laidMetH_plain _ _ _ (by kernel_rfl)]; exact laidMet_laidAll _ (by kernel_rfl) (by kernel_rfl))) ?_
  intro W base args ds gs before hval0 hW _ _ hL _
  have hval : ∀ (j : Nat) t v, Tryd.f8.params[j]? = some t → args[j]? = some v → Value.okWide Tryd.prog W .any base t v := hval0
  have hW0 := hW
  obtain ⟨p, q, hA0, _, _, _, _⟩ := hW
  have hA : DataW.TrodAll enc Tryd.prog W 0 (fun _ => true) true Tryd.f8.params.toList args.toList ds p := hA0
  obtain ⟨vs, hg, hF⟩ : ∃ vs, Given Tryd.prog W Tryd.f8.params.toList vs args.toList ∧ laws_FnExactFormatEvent_ent.F vs = some (B true, []) := by
    rw [Tryd.params8] at hA hval
    obtain ⟨v0, v1, d0, d1, p0, p1, rfl, rfl, rfl, h0, h1⟩ := trodAll_two hA
    obtain ⟨x0, k0, g0⟩ := arg_agg Tryd.underlying44 rd_Event44 (fun _ => rfl) (hval 0 44 v0 rfl rfl) h0
    obtain ⟨x1, k1, g1⟩ := arg_slice Tryd.underlying45 (rd_str Tryd.underlying9) (of_decide_eq_true (by kernel_rfl)) (hval 1 45 v1 rfl rfl) h1
    refine ⟨[enc_Event x0, .isl false (x1.map str)], ?_, laws_FnExactFormatEvent_F (law_FnExactFormatEvent x0 k0 x1 k1)⟩
    rw [Tryd.params8]
    exact ⟨g0, g1, trivial⟩
  have hT : Lib.TabIs Tryd.prog W "internal/strconv.uint64pow10" .u64 Lib.pow10Tab := by
    have hL2 := hL
    rw [MakeChecks.laidMetH_plain _ _ _ (by kernel_rfl)] at hL2
    replace hL2 : laidMet Tryd.prog [("math/bits.deBruijn32tab", Rows.laid_math_bits_deBruijn32tab), ("math/bits.deBruijn64tab", Rows.laid_math_bits_deBruijn64tab), ("internal/strconv.uint64pow10", Rows.laid_internal_strconv_uint64pow10), ("unicode/utf8.acceptRanges", Rows.laid_unicode_utf8_acceptRanges), ("unicode/utf8.first", Rows.laid_unicode_utf8_first)] W := hL2
    replace hL2 : laidMet Tryd.prog [("math/bits.deBruijn64tab", Rows.laid_math_bits_deBruijn64tab), ("internal/strconv.uint64pow10", Rows.laid_internal_strconv_uint64pow10), ("unicode/utf8.acceptRanges", Rows.laid_unicode_utf8_acceptRanges), ("unicode/utf8.first", Rows.laid_unicode_utf8_first)] W := laid_tail hL2
    replace hL2 : laidMet Tryd.prog [("internal/strconv.uint64pow10", Rows.laid_internal_strconv_uint64pow10), ("unicode/utf8.acceptRanges", Rows.laid_unicode_utf8_acceptRanges), ("unicode/utf8.first", Rows.laid_unicode_utf8_first)] W := laid_tail hL2
    exact Lib.tabIs_of_head (rest := [("unicode/utf8.acceptRanges", Rows.laid_unicode_utf8_acceptRanges), ("unicode/utf8.first", Rows.laid_unicode_utf8_first)]) (g := 1) (t := 161) (e := 92) (n := 20) (by kernel_rfl) (by kernel_rfl) Tryd.underlying161 Tryd.underlying92 (by kernel_rfl) (by kernel_rfl) hL2
  refine (calls_of_goodG (P := Tryd.prog) (okT hT) Tryd.func8 (c := laws_FnExactFormatEvent_c) (n := 2) ⟨rfl, rfl, by decide⟩ laws_FnExactFormatEvent_good hg hF).mono fun e W' ⟨he, hB⟩ => ⟨_, he, ?_⟩
  refine post_law Tryd.laidOut (tb := 4) ?_ rfl Tryd.underlying4 rfl ?_ hW0 hB
  · have h0 : ∀ t ∈ ([44, 45] : List TypeId), Tryd.prog.readableRec t = true ∧ t < Tryd.prog.types.size := by
      intro t ht
      simp only [List.mem_cons, List.not_mem_nil, or_false] at ht
      rcases ht with rfl | rfl

      all_goals exact ⟨by kernel_rfl, of_decide_eq_true (by kernel_rfl)⟩
    exact h0
  · intro ds hd
    match ds, hd with
    | [d0, d1], _ => rfl
theorem fnExactFormatEvent_holds : Rows.FnExactFormatEventSaid :=
  OpenClaim.holds_of_wide 8 Tryd.f8 rfl rfl rfl rfl rfl rfl rfl ⟨rfl,rfl,rfl,rfl,rfl⟩ rfl rfl rfl rfl rfl (by kernel_rfl) Tryd.func8 (by kernel_rfl)
    (of_decide_eq_true (by kernel_rfl)) (by unfold Func.isWrapper; first | (rw [if_pos (by decide +kernel)]; kernel_rfl) | (rw [if_neg (by decide +kernel)]; exact ⟨rfl,rfl⟩))
    (fun os started H enc _=>fnExactFormatEvent_lifted os started H enc)
theorem fnExactFormatEvent_card : Rows.FnExactFormatEventCardSaid :=
  Claim7.holds_tied_plain_at .later [] [.data, .data, .data, .data, .pinned] true (true, "406c3948e2131a8be68dfc70b02e1f6ee66806a54ed0eb20642d1c9af4c7d601") false
    fnExactFormatEvent_holds (fun _ h => by cases h) (by kernel_rfl) (fun _ h => by cases h) fnExactFormatEvent_row_tie rfl ⟨rfl, rfl⟩ (by kernel_rfl) rfl
    (fun f fn hf hfn => by
      obtain rfl : f = 8 := Option.some.inj ((show Tryd.prog.funcNamed "loop.example/g00902/laws.FnExactFormatEvent" = some 8 by kernel_rfl).symm.trans hf) |>.symm
      obtain rfl : fn = Tryd.f8 := (Option.some.inj (Tryd.func8.symm.trans hfn)).symm
      exact ⟨by kernel_rfl, fun j t ht => by
        rw [Tryd.params8] at ht
        have hm : t ∈ [44, 45] := by simpa using Array.mem_of_getElem? ht
        have hall : ([44, 45].all fun u => !Tryd.prog.wantsStandIn u) = true := by kernel_rfl
        exact (show Tryd.prog.wantsStandIn t = false by simpa using List.all_eq_true.1 hall t hm)⟩)
    (by kernel_rfl)
end Go.Proofs.YtgcnameabpnpaaaDoor
