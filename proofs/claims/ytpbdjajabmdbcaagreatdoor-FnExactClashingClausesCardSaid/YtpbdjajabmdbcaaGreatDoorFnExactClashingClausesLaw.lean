/-
  ClashingClauses of the program and of the reference return the same, for all contracts.
-/
import Derived.Test.YtpbdjajabmdbcaaGreatDoorFnExactClashingClausesPure
import Derived.Test.YtpbdjajabmdbcaaGreatDoorFnExactClashingClausesRunB
import Derived.Test.YtpbdjajabmdbcaaGreatDoorCards
import Derived.Test.YtpbdjajabmdbcaaGreatDoorTie
import Derived.OpenShut
import Derived.LaidMore
import Derived.Lay
import Derived.SevenTiedAt
import Derived.Stop.Joined
set_option maxHeartbeats 4000000
set_option linter.unusedVariables false
set_option linter.unusedSimpArgs false
set_option maxRecDepth 100000
namespace Go.Proofs.YtpbdjajabmdbcaaGreatDoor
open Go Go.Ln Go.ChangeShapes Go.WideShapes Go.ChangeAt Go.RowKit
theorem Tryz.own:ownKnob Tryz.prog.godebug=none:=by kernel_rfl
theorem Tryz.laidOut:laidOutB Tryz.prog=true:=by kernel_rfl
theorem fE {a b:Bool}(h:a=true)(k:b=true):(a&&b)=true:=by rw[h,k];rfl
theorem Ex:∀N,P2 N Tryz.prog 82 au od:=by
 intro N
 induction N with
 | zero=>intro H enc w sp held n cs x hn h;omega
 | succ N ih=>
  intro H enc w sp held n cs x hn h
  obtain⟨d,rfl,hl,hf⟩:=NB Tryz.underlying82 h
  obtain⟨y0,h0⟩:=hf 0 _ rfl
  obtain⟨a0,k0,m0,r0⟩:=(qO Tryz.underlying3) h0
  have r0:R2 w _ ((cs.drop 0).take 1):=r0
  obtain⟨y1,h1⟩:=hf 1 _ rfl
  obtain⟨a1,k1,m1,r1⟩:=(wG Tryz.underlying9) h1
  have r1:R2 w _ ((cs.drop 1).take 1):=r1
  obtain⟨y2,h2⟩:=hf 2 _ rfl
  obtain⟨a2,k2,m2,r2⟩:=(qO Tryz.underlying3) h2
  have r2:R2 w _ ((cs.drop 2).take 1):=r2
  obtain⟨y3,h3⟩:=hf 3 _ rfl
  obtain⟨a3,k3,m3,r3⟩:=Gv Tryz.underlying80 ih (of_decide_eq_true (by kernel_rfl)) (show d<N+1 by omega) h3
  have r3:R2 w _ ((cs.drop 3).take 1):=r3
  refine⟨⟨a0,a1,a2,a3⟩,(Ig _).2 ⟨k0,k1,k2,k3⟩,?_,?_⟩
  ·rw[bd];exact⟨m0,m1,m2,m3,trivial⟩
  ·rw[bd];exact Fv (v:=aE ⟨a0,a1,a2,a3⟩) (ps:=[cells (I a0),cells (str a1),cells (I a2),cells (.isl false ((a3).map au))]) rfl ⟨r0,r1,r2,r3,hl⟩
theorem Fu:Rd Tryz.prog 82 au od:=QS Ex
theorem Lf:Rd Tryz.prog 84 ar rp:=by
 intro H enc w sp held n cs x h
 obtain⟨hl,hf⟩:=Gw Tryz.underlying84 h
 obtain⟨n0,y0,h0⟩:=hf 0 _ rfl
 obtain⟨a0,k0,m0,r0⟩:=(wG Tryz.underlying9) h0
 have r0:R2 w _ ((cs.drop 0).take 1):=r0
 obtain⟨n1,y1,h1⟩:=hf 1 _ rfl
 obtain⟨a1,k1,m1,r1⟩:=(qO Tryz.underlying3) h1
 have r1:R2 w _ ((cs.drop 1).take 1):=r1
 obtain⟨n2,y2,h2⟩:=hf 2 _ rfl
 obtain⟨a2,k2,m2,r2⟩:=(qO Tryz.underlying3) h2
 have r2:R2 w _ ((cs.drop 2).take 1):=r2
 obtain⟨n3,y3,h3⟩:=hf 3 _ rfl
 obtain⟨a3,k3,m3,r3⟩:=(wG Tryz.underlying9) h3
 have r3:R2 w _ ((cs.drop 3).take 1):=r3
 obtain⟨n4,y4,h4⟩:=hf 4 _ rfl
 obtain⟨a4,k4,m4,r4⟩:=(qO Tryz.underlying3) h4
 have r4:R2 w _ ((cs.drop 4).take 1):=r4
 obtain⟨n5,y5,h5⟩:=hf 5 _ rfl
 obtain⟨a5,k5,m5,r5⟩:=(qO Tryz.underlying3) h5
 have r5:R2 w _ ((cs.drop 5).take 1):=r5
 obtain⟨n6,y6,h6⟩:=hf 6 _ rfl
 obtain⟨a6,k6,m6,r6⟩:=Fu h6
 have r6:R2 w _ ((cs.drop 6).take 4):=r6
 rw[bd a6] at m6 r6
 obtain⟨n7,y7,h7⟩:=hf 7 _ rfl
 obtain⟨a7,k7,m7,r7⟩:=(qO Tryz.underlying3) h7
 have r7:R2 w _ ((cs.drop 10).take 1):=r7
 obtain⟨n8,y8,h8⟩:=hf 8 _ rfl
 obtain⟨a8,k8,m8,r8⟩:=(wG Tryz.underlying9) h8
 have r8:R2 w _ ((cs.drop 11).take 1):=r8
 refine⟨⟨a0,a1,a2,a3,a4,a5,a6,a7,a8⟩,⟨k0,k1,k2,k3,k4,k5,k6,k7,k8⟩,?_,Fv (v:=ar ⟨a0,a1,a2,a3,a4,a5,a6,a7,a8⟩) (ps:=[cells (str a0),cells (I a1),cells (I a2),cells (str a3),cells (I a4),cells (I a5),cells (aE a6),cells (I a7),cells (str a8)]) rfl ⟨r0,r1,r2,r3,r4,r5,r6,r7,r8,hl⟩⟩
 simp only[ar,nh,nhs,aE] at *
 simp_all
theorem GO:Rd Tryz.prog 25 aO RH:=by
 intro H enc w sp held n cs x h
 obtain⟨hl,hf⟩:=Gw Tryz.underlying25 h
 obtain⟨n0,y0,h0⟩:=hf 0 _ rfl
 obtain⟨a0,k0,m0,r0⟩:=(J2 Tryz.underlying22 (wG Tryz.underlying9) (of_decide_eq_true (by kernel_rfl))) h0
 have r0:R2 w _ ((cs.drop 0).take 1):=r0
 obtain⟨n1,y1,h1⟩:=hf 1 _ rfl
 obtain⟨a1,k1,m1,r1⟩:=(J2 Tryz.underlying23 (Lf) (of_decide_eq_true (by kernel_rfl))) h1
 have r1:R2 w _ ((cs.drop 1).take 1):=r1
 refine⟨⟨a0,a1⟩,⟨k0,k1⟩,?_,Fv (v:=aO ⟨a0,a1⟩) (ps:=[cells (.isl false ((a0).map str)),cells (.isl false ((a1).map ar))]) rfl ⟨r0,r1,hl⟩⟩
 exact⟨m0,m1,trivial⟩
set_option maxRecDepth 100000 in
theorem nS (os : Os)(started : os.Started)(H : Type)(enc : TypeId × Value → H) :
    ReturnsInHanded {} Tryz.checked os 3 .any (fun w args=>(Rows.fnExactClashingClausesSpec.pre enc Tryz.prog Tryz.f3 Rows.fnExactClashingClausesRow.domain false w args ∧ laidMetH Tryz.prog Rows.fnExactClashingClausesRow.laid w) ∧ sizedMet enc Tryz.prog Tryz.f3 (OpenSpec.ofChange Rows.fnExactClashingClausesSpec) false w args)
      (Rows.fnExactClashingClausesSpec.post enc Tryz.prog Tryz.f3 false true false false):=by
  refine returnsInHanded_of_change_and (C:=Tryz.checked) (X:=fun w _=>laidMetH Tryz.prog Rows.fnExactClashingClausesRow.laid w) (fun _ _ _ hh h=>h.of_heap hh) Tryz.own started (by kernel_rfl) Tryz.func3
    (ChangeSpec.witness_shaped (enc:=enc) (C:=Tryz.checked) (os:=os) (X:=fun w _=>laidMetH Tryz.prog Rows.fnExactClashingClausesRow.laid w) false (World.laidAll Tryz.prog os Rows.fnExactClashingClausesRow.laid) #[.agg #[.slice none 0 0,.slice none 0 0]] 8 (World.laidAll_os _ _ _)
      (World.shaped_of_ZipB (by kernel_rfl) (by kernel_rfl)) (by kernel_rfl) (by kernel_rfl) (by kernel_rfl)
      (by rw [MakeChecks.laidMetH_plain _ _ _ (by kernel_rfl)]; exact laidMet_laidAll _ (by kernel_rfl) (by kernel_rfl))) ?_
  intro W base args ds gs before hval0 hW _ _ hL _
  have hval : ∀ (j : Nat) t v,Tryz.f3.params[j]?=some t→args[j]?=some v→Value.okWide Tryz.prog W .any base t v:=hval0
  have hW0:=hW
  obtain ⟨p,q,hA0,_,_,_,_⟩:=hW
  have hA : DataW.TrodAll enc Tryz.prog W 0 (fun _=>true) true Tryz.f3.params.toList args.toList ds p:=hA0
  obtain ⟨vs,hg,hF⟩ : ∃ vs,oI Tryz.prog W Tryz.f3.params.toList vs args.toList ∧ fO.F vs=some (B true,[]):=by
    rw [Tryz.params3] at hA hval
    obtain ⟨v0,d0,rfl,rfl,h0⟩:=trodAll_one hA
    obtain ⟨x0,k0,g0⟩:=UY Tryz.underlying25 GO (fun _=>rfl) (hval 0 25 v0 rfl rfl) h0
    refine ⟨[aO x0],?_,nT (py x0 k0)⟩
    rw [Tryz.params3]
    exact ⟨g0,trivial⟩
  refine (GK (P:=Tryz.prog) Tryz.func3 (c:=dX) (n:=1) ⟨rfl,rfl,by decide⟩ mr hg hF).mono fun e W' ⟨he,hB⟩=>⟨_,he,?_⟩
  refine Tk Tryz.laidOut (tb:=4) ?_ rfl Tryz.underlying4 rfl ?_ hW0 hB
  · have h0 : ∀ t ∈ ([25] : List TypeId),Tryz.prog.readableRec t=true ∧ t < Tryz.prog.types.size:=by
      intro t ht
      simp only [List.mem_cons,List.not_mem_nil,or_false] at ht
      subst ht

      all_goals exact ⟨by kernel_rfl,of_decide_eq_true (by kernel_rfl)⟩
    exact h0
  · intro ds hd
    match ds,hd with
    | [d0],_=>rfl
theorem fnExactClashingClauses_holds:Rows.FnExactClashingClausesSaid:=
 OpenClaim.holds_of_wide 3 Tryz.f3 rfl rfl rfl rfl rfl rfl rfl ⟨rfl,rfl,rfl,rfl,rfl⟩ rfl rfl rfl rfl rfl (by as_aux_lemma=>kernel_rfl) Tryz.func3 (by unfold joinedFacts;refine fE (fE (fE (fE (fE (fE (fE (fE (fE (fE (fE (fE (fE (fE (fE (fE (fE (fE (fE (fE (fE (fE (fE (fE (fE (fE (fE (fE (fE (fE (fE ?_ ?_) ?_) ?_) ?_) ?_) ?_) ?_) ?_) ?_) ?_) ?_) ?_) ?_) ?_) ?_) ?_) ?_) ?_) ?_) ?_) ?_) ?_) ?_) ?_) ?_) ?_) ?_) ?_) ?_) ?_) ?_;all_goals as_aux_lemma=>kernel_rfl)
  (of_decide_eq_true (by as_aux_lemma=>kernel_rfl)) (by unfold Func.isWrapper;first | (rw[if_pos (by decide +kernel)];kernel_rfl) | (rw[if_neg (by decide +kernel)];exact⟨rfl,rfl⟩))
  (fun os started H enc _=>nS os started H enc)
theorem fnExactClashingClauses_card:Rows.FnExactClashingClausesCardSaid:=
 Claim7.holds_tied_plain_at .later [] [.data, .pinned] true (true, "ec0e854c9ba01553e64f9539432d688878dff7f40ed6596c5fe714c0ff5ab62a") false
  fnExactClashingClauses_holds (fun _ h=>by cases h) (by as_aux_lemma=>kernel_rfl) (fun _ h=>by cases h) fnExactClashingClauses_row_tie rfl ⟨rfl,rfl⟩ (by as_aux_lemma=>kernel_rfl) rfl
  (fun f fn hf hfn=>by
   obtain rfl : f = 3 := Option.some.inj ((show Tryz.prog.funcNamed "loop.example/g00902/laws.FnExactClashingClauses" = some 3 by as_aux_lemma => kernel_rfl).symm.trans hf) |>.symm
   obtain rfl:fn=Tryz.f3:=(Option.some.inj (Tryz.func3.symm.trans hfn)).symm
   exact⟨by as_aux_lemma=>kernel_rfl,fun j t ht=>by
    rw[Tryz.params3] at ht
    have hm:t∈[25]:=by simpa using Array.mem_of_getElem? ht
    have hall:([25].all fun u=>!Tryz.prog.wantsStandIn u)=true:=by as_aux_lemma=>kernel_rfl
    exact (show Tryz.prog.wantsStandIn t=false by simpa using List.all_eq_true.1 hall t hm)⟩)
  (by as_aux_lemma=>kernel_rfl)
end Go.Proofs.YtpbdjajabmdbcaaGreatDoor
