/-
  The law FnEvents returns true at every input: of the events that the program draws from a seed, sorting gives an event list, merging keeps the counts of all actions, and shifting back recovers the list. Condition: Go's own tables in package unicode/utf8 read as the program's text lays them (the tied card).
-/
import Derived.Test.YtgcnameabpnpaaaDoorFnEventsPure
import Derived.Test.YtgcnameabpnpaaaDoorFnEventsRunB
import Derived.Test.YtgcnameabpnpaaaDoorCards
import Derived.Test.YtgcnameabpnpaaaDoorTie
import Derived.OpenShut
import Derived.LaidMore
import Derived.Lay
import Derived.SevenTiedAt
import Derived.Stop.Joined
set_option maxHeartbeats 4000000
set_option linter.unusedVariables false
set_option linter.unusedSimpArgs false
set_option maxRecDepth 100000
namespace Go.Proofs.YtgcnameabpnpaaaDoor
open Go Go.Ln Go.ChangeShapes Go.WideShapes Go.ChangeAt Go.RowKit
theorem Tryd.own : ownKnob Tryd.prog.godebug=none:=by kernel_rfl
theorem Tryd.laidOut : laidOutB Tryd.prog=true:=by kernel_rfl

set_option maxRecDepth 100000 in
theorem fnEvents_lifted (os : Os) (started : os.Started) (H : Type) (enc : TypeId × Value → H) :
    ReturnsInHanded {} Tryd.checked os 12 .any (fun w args => (Rows.fnEventsSpec.pre enc Tryd.prog Tryd.f12 Rows.fnEventsRow.domain false w args ∧ laidMetH Tryd.prog Rows.fnEventsRow.laid w) ∧ sizedMet enc Tryd.prog Tryd.f12 (OpenSpec.ofChange Rows.fnEventsSpec) false w args)
      (Rows.fnEventsSpec.post enc Tryd.prog Tryd.f12 false true false false) := by
  refine returnsInHanded_of_change_and (C := Tryd.checked) (X := fun w _ => laidMetH Tryd.prog Rows.fnEventsRow.laid w) (fun _ _ _ hh h => h.of_heap hh) Tryd.own started (by kernel_rfl) Tryd.func12
    (ChangeSpec.witness_shaped (enc := enc) (C := Tryd.checked) (os := os) (X := fun w _ => laidMetH Tryd.prog Rows.fnEventsRow.laid w) false (World.laidAll Tryd.prog os Rows.fnEventsRow.laid) #[.slice none 0 0] 8 (World.laidAll_os _ _ _)
      (World.shaped_of_ZipB (by kernel_rfl) (by kernel_rfl)) (by kernel_rfl) (by kernel_rfl) (by kernel_rfl)
      (by rw [MakeChecks.laidMetH_plain _ _ _ (by kernel_rfl)]; exact laidMet_laidAll _ (by kernel_rfl) (by kernel_rfl))) ?_
  intro W base args ds gs before hval0 hW _ _ hL _
  have hval : ∀ (j : Nat) t v, Tryd.f12.params[j]? = some t → args[j]? = some v → Value.okWide Tryd.prog W .any base t v := hval0
  have hW0 := hW
  obtain ⟨p, q, hA0, _, _, _, _⟩ := hW
  have hA : DataW.TrodAll enc Tryd.prog W 0 (fun _ => true) true Tryd.f12.params.toList args.toList ds p := hA0
  obtain ⟨vs, hg, hF⟩ : ∃ vs, Given Tryd.prog W Tryd.f12.params.toList vs args.toList ∧ laws_FnEvents_ent.F vs = some (B true, []) := by
    rw [Tryd.params12] at hA hval
    obtain ⟨v0, d0, rfl, rfl, h0⟩ := trodAll_one hA
    obtain ⟨x0, k0, g0⟩ := arg_slice Tryd.underlying60 (rd_intk Tryd.underlying5) (of_decide_eq_true (by kernel_rfl)) (hval 0 60 v0 rfl rfl) h0
    refine ⟨[.isl false (x0.map (V.int .u8))], ?_, laws_FnEvents_F (law_FnEvents x0 k0)⟩
    rw [Tryd.params12]
    exact ⟨g0, trivial⟩
  refine (calls_of_good (P := Tryd.prog) Tryd.func12 (c := laws_FnEvents_c) (n := 1) ⟨rfl, rfl, by decide⟩ laws_FnEvents_good hg hF).mono fun e W' ⟨he, hB⟩ => ⟨_, he, ?_⟩
  refine post_law Tryd.laidOut (tb := 4) ?_ rfl Tryd.underlying4 rfl ?_ hW0 hB
  · have h0 : ∀ t ∈ ([60] : List TypeId), Tryd.prog.readableRec t = true ∧ t < Tryd.prog.types.size := by
      intro t ht
      simp only [List.mem_cons, List.not_mem_nil, or_false] at ht
      subst ht

      all_goals exact ⟨by kernel_rfl, of_decide_eq_true (by kernel_rfl)⟩
    exact h0
  · intro ds hd
    match ds, hd with
    | [d0], _ => rfl
theorem fnEvents_holds : Rows.FnEventsSaid :=
  OpenClaim.holds_of_wide 12 Tryd.f12 rfl rfl rfl rfl rfl rfl rfl ⟨rfl,rfl,rfl,rfl,rfl⟩ rfl rfl rfl rfl rfl (by kernel_rfl) Tryd.func12 (by kernel_rfl)
    (of_decide_eq_true (by kernel_rfl)) (by unfold Func.isWrapper; first | (rw [if_pos (by decide +kernel)]; kernel_rfl) | (rw [if_neg (by decide +kernel)]; exact ⟨rfl,rfl⟩))
    (fun os started H enc _=>fnEvents_lifted os started H enc)
theorem fnEvents_card : Rows.FnEventsCardSaid :=
  Claim7.holds_tied_plain_at .later [] [.data, .pinned] true (true, "406c3948e2131a8be68dfc70b02e1f6ee66806a54ed0eb20642d1c9af4c7d601") false
    fnEvents_holds (fun _ h => by cases h) (by kernel_rfl) (fun _ h => by cases h) fnEvents_row_tie rfl ⟨rfl, rfl⟩ (by kernel_rfl) rfl
    (fun f fn hf hfn => by
      obtain rfl : f = 12 := Option.some.inj ((show Tryd.prog.funcNamed "loop.example/g00902/laws.FnEvents" = some 12 by kernel_rfl).symm.trans hf) |>.symm
      obtain rfl : fn = Tryd.f12 := (Option.some.inj (Tryd.func12.symm.trans hfn)).symm
      exact ⟨by kernel_rfl, fun j t ht => by
        rw [Tryd.params12] at ht
        have hm : t ∈ [60] := by simpa using Array.mem_of_getElem? ht
        have hall : ([60].all fun u => !Tryd.prog.wantsStandIn u) = true := by kernel_rfl
        exact (show Tryd.prog.wantsStandIn t = false by simpa using List.all_eq_true.1 hall t hm)⟩)
    (by kernel_rfl)
end Go.Proofs.YtgcnameabpnpaaaDoor
