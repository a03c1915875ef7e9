/-
  An implied condition holds wherever the other one holds, and a condition changes its value over time only at the days that are announced, for all codes of the draws.
-/
import Derived.Test.YtoghefkinobihaaDoorFnImplicationsPure
import Derived.Test.YtoghefkinobihaaDoorFnImplicationsRunB
import Derived.Test.YtoghefkinobihaaDoorCards
import Derived.Test.YtoghefkinobihaaDoorTie
import Derived.OpenShut
import Derived.LaidMore
import Derived.Lay
import Derived.SevenTiedAt
import Derived.Stop.Joined
set_option maxHeartbeats 4000000
set_option linter.unusedVariables false
set_option linter.unusedSimpArgs false
set_option maxRecDepth 100000
namespace Go.Proofs.YtoghefkinobihaaDoor
open Go Go.Ln Go.ChangeShapes Go.WideShapes Go.ChangeAt Go.RowKit
theorem Tryd.own:ownKnob Tryd.prog.godebug=none:=by kernel_rfl
theorem Tryd.laidOut:laidOutB Tryd.prog=true:=by kernel_rfl
theorem fy {a b:Bool}(h:a=true)(k:b=true):(a&&b)=true:=by rw[h,k];rfl
set_option maxRecDepth 100000 in
theorem ru (os : Os)(started : os.Started)(H : Type)(enc : TypeId × Value → H) :
    ReturnsInHanded {} Tryd.checked os 3 .any (fun w args=>(Rows.fnImplicationsSpec.pre enc Tryd.prog Tryd.f3 Rows.fnImplicationsRow.domain false w args ∧ laidMetH Tryd.prog Rows.fnImplicationsRow.laid w) ∧ sizedMet enc Tryd.prog Tryd.f3 (OpenSpec.ofChange Rows.fnImplicationsSpec) false w args)
      (Rows.fnImplicationsSpec.post enc Tryd.prog Tryd.f3 false true false false):=by
  refine returnsInHanded_of_change_and (C:=Tryd.checked) (X:=fun w _=>laidMetH Tryd.prog Rows.fnImplicationsRow.laid w) (fun _ _ _ hh h=>h.of_heap hh) Tryd.own started (by kernel_rfl) Tryd.func3
    (ChangeSpec.witness_shaped (enc:=enc) (C:=Tryd.checked) (os:=os) (X:=fun w _=>laidMetH Tryd.prog Rows.fnImplicationsRow.laid w) false (World.laidAll Tryd.prog os Rows.fnImplicationsRow.laid) #[.slice none 0 0] 8 (World.laidAll_os _ _ _)
      (World.shaped_of_ZipB (by kernel_rfl) (by kernel_rfl)) (by kernel_rfl) (by kernel_rfl) (by kernel_rfl)
      (by rw [MakeChecks.laidMetH_plain _ _ _ (by kernel_rfl)]; exact laidMet_laidAll _ (by kernel_rfl) (by kernel_rfl))) ?_
  intro W base args ds gs before hval0 hW _ _ hL _
  have hval : ∀ (j : Nat) t v,Tryd.f3.params[j]?=some t→args[j]?=some v→Value.okWide Tryd.prog W .any base t v:=hval0
  have hW0:=hW
  obtain ⟨p,q,hA0,_,_,_,_⟩:=hW
  have hA : DataW.TrodAll enc Tryd.prog W 0 (fun _=>true) true Tryd.f3.params.toList args.toList ds p:=hA0
  obtain ⟨vs,hg,hF⟩ : ∃ vs,ny Tryd.prog W Tryd.f3.params.toList vs args.toList ∧ iw.F vs=some (B true,[]):=by
    rw [Tryd.params3] at hA hval
    obtain ⟨v0,d0,rfl,rfl,h0⟩:=trodAll_one hA
    obtain ⟨x0,k0,g0⟩:=Ki Tryd.underlying22 (O2 Tryd.underlying5) (of_decide_eq_true (by kernel_rfl)) (hval 0 22 v0 rfl rfl) h0
    refine ⟨[.isl false (x0.map (V.int .u8))],?_,ry (uU x0 k0)⟩
    rw [Tryd.params3]
    exact ⟨g0,trivial⟩
  refine (Dq (P:=Tryd.prog) Tryd.func3 (c:=gL) (n:=1) ⟨rfl,rfl,by decide⟩ pM hg hF).mono fun e W' ⟨he,hB⟩=>⟨_,he,?_⟩
  refine MQ Tryd.laidOut (tb:=4) ?_ rfl Tryd.underlying4 rfl ?_ hW0 hB
  · have h0 : ∀ t ∈ ([22] : List TypeId),Tryd.prog.readableRec t=true ∧ t < Tryd.prog.types.size:=by
      intro t ht
      simp only [List.mem_cons,List.not_mem_nil,or_false] at ht
      subst ht

      all_goals exact ⟨by kernel_rfl,of_decide_eq_true (by kernel_rfl)⟩
    exact h0
  · intro ds hd
    match ds,hd with
    | [d0],_=>rfl
theorem fnImplications_holds:Rows.FnImplicationsSaid:=
 OpenClaim.holds_of_wide 3 Tryd.f3 rfl rfl rfl rfl rfl rfl rfl ⟨rfl,rfl,rfl,rfl,rfl⟩ rfl rfl rfl rfl rfl (by as_aux_lemma=>kernel_rfl) Tryd.func3 (by unfold joinedFacts;refine fy (fy (fy (fy (fy (fy (fy (fy (fy (fy (fy (fy (fy (fy (fy (fy (fy (fy (fy (fy (fy (fy (fy (fy (fy (fy (fy (fy (fy (fy (fy ?_ ?_) ?_) ?_) ?_) ?_) ?_) ?_) ?_) ?_) ?_) ?_) ?_) ?_) ?_) ?_) ?_) ?_) ?_) ?_) ?_) ?_) ?_) ?_) ?_) ?_) ?_) ?_) ?_) ?_) ?_) ?_;all_goals as_aux_lemma=>kernel_rfl)
  (of_decide_eq_true (by as_aux_lemma=>kernel_rfl)) (by unfold Func.isWrapper;first | (rw[if_pos (by decide +kernel)];kernel_rfl) | (rw[if_neg (by decide +kernel)];exact⟨rfl,rfl⟩))
  (fun os started H enc _=>ru os started H enc)
theorem fnImplications_card:Rows.FnImplicationsCardSaid:=
 Claim7.holds_tied_plain_at .later [] [.data, .pinned] true (true, "14ffd83b4a47b52da66c247685db95e8f4d4fb006a7f970dc7acba0521d568ba") false
  fnImplications_holds (fun _ h=>by cases h) (by as_aux_lemma=>kernel_rfl) (fun _ h=>by cases h) fnImplications_row_tie rfl ⟨rfl,rfl⟩ (by as_aux_lemma=>kernel_rfl) rfl
  (fun f fn hf hfn=>by
   obtain rfl : f = 3 := Option.some.inj ((show Tryd.prog.funcNamed "loop.example/g00902/laws.FnImplications" = some 3 by as_aux_lemma => kernel_rfl).symm.trans hf) |>.symm
   obtain rfl:fn=Tryd.f3:=(Option.some.inj (Tryd.func3.symm.trans hfn)).symm
   exact⟨by as_aux_lemma=>kernel_rfl,fun j t ht=>by
    rw[Tryd.params3] at ht
    have hm:t∈[22]:=by simpa using Array.mem_of_getElem? ht
    have hall:([22].all fun u=>!Tryd.prog.wantsStandIn u)=true:=by as_aux_lemma=>kernel_rfl
    exact (show Tryd.prog.wantsStandIn t=false by simpa using List.all_eq_true.1 hall t hm)⟩)
  (by as_aux_lemma=>kernel_rfl)
end Go.Proofs.YtoghefkinobihaaDoor
