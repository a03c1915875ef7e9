/-
  IsForbidden of the program and of the reference return the same, for all contracts, states, parties and actions.
-/
import Derived.Test.YtcfddlacocdpoaaGreatDoorFnExactIsForbiddenPure
import Derived.Test.YtcfddlacocdpoaaGreatDoorFnExactIsForbiddenRunB
import Derived.Test.YtcfddlacocdpoaaGreatDoorCards
import Derived.Test.YtcfddlacocdpoaaGreatDoorTie
import Derived.OpenShut
import Derived.LaidMore
import Derived.Lay
import Derived.SevenTiedAt
import Derived.Stop.Joined
set_option maxHeartbeats 4000000
set_option linter.unusedVariables false
set_option linter.unusedSimpArgs false
set_option maxRecDepth 100000
namespace Go.Proofs.YtcfddlacocdpoaaGreatDoor
open Go Go.Ln Go.ChangeShapes Go.WideShapes Go.ChangeAt Go.RowKit
theorem Tryz.own:ownKnob Tryz.prog.godebug=none:=by kernel_rfl
theorem Tryz.laidOut:laidOutB Tryz.prog=true:=by kernel_rfl
theorem fB {a b:Bool}(h:a=true)(k:b=true):(a&&b)=true:=by rw[h,k];rfl
theorem Br:∀N,Sl N Tryz.prog 105 ay nO:=by
 intro N
 induction N with
 | zero=>intro H enc w sp held n cs x hn h;omega
 | succ N ih=>
  intro H enc w sp held n cs x hn h
  obtain⟨d,rfl,hl,hf⟩:=OA Tryz.underlying105 h
  obtain⟨y0,h0⟩:=hf 0 _ rfl
  obtain⟨a0,k0,m0,r0⟩:=(iy Tryz.underlying3) h0
  have r0:R2 w _ ((cs.drop 0).take 1):=r0
  obtain⟨y1,h1⟩:=hf 1 _ rfl
  obtain⟨a1,k1,m1,r1⟩:=(qy Tryz.underlying9) h1
  have r1:R2 w _ ((cs.drop 1).take 1):=r1
  obtain⟨y2,h2⟩:=hf 2 _ rfl
  obtain⟨a2,k2,m2,r2⟩:=(iy Tryz.underlying3) h2
  have r2:R2 w _ ((cs.drop 2).take 1):=r2
  obtain⟨y3,h3⟩:=hf 3 _ rfl
  obtain⟨a3,k3,m3,r3⟩:=HG Tryz.underlying103 ih (of_decide_eq_true (by kernel_rfl)) (show d<N+1 by omega) h3
  have r3:R2 w _ ((cs.drop 3).take 1):=r3
  refine⟨⟨a0,a1,a2,a3⟩,(Jw _).2 ⟨k0,k1,k2,k3⟩,?_,?_⟩
  ·rw[bB];exact⟨m0,m1,m2,m3,trivial⟩
  ·rw[bB];exact tn (v:=bg ⟨a0,a1,a2,a3⟩) (ps:=[cells (I a0),cells (str a1),cells (I a2),cells (.isl false ((a3).map ay))]) rfl ⟨r0,r1,r2,r3,hl⟩
theorem FG:Rd Tryz.prog 105 ay nO:=Td Br
theorem K9:Rd Tryz.prog 107 aj re:=by
 intro H enc w sp held n cs x h
 obtain⟨hl,hf⟩:=rh Tryz.underlying107 h
 obtain⟨n0,y0,h0⟩:=hf 0 _ rfl
 obtain⟨a0,k0,m0,r0⟩:=(qy Tryz.underlying9) h0
 have r0:R2 w _ ((cs.drop 0).take 1):=r0
 obtain⟨n1,y1,h1⟩:=hf 1 _ rfl
 obtain⟨a1,k1,m1,r1⟩:=(iy Tryz.underlying3) h1
 have r1:R2 w _ ((cs.drop 1).take 1):=r1
 obtain⟨n2,y2,h2⟩:=hf 2 _ rfl
 obtain⟨a2,k2,m2,r2⟩:=(iy Tryz.underlying3) h2
 have r2:R2 w _ ((cs.drop 2).take 1):=r2
 obtain⟨n3,y3,h3⟩:=hf 3 _ rfl
 obtain⟨a3,k3,m3,r3⟩:=(qy Tryz.underlying9) h3
 have r3:R2 w _ ((cs.drop 3).take 1):=r3
 obtain⟨n4,y4,h4⟩:=hf 4 _ rfl
 obtain⟨a4,k4,m4,r4⟩:=(iy Tryz.underlying3) h4
 have r4:R2 w _ ((cs.drop 4).take 1):=r4
 obtain⟨n5,y5,h5⟩:=hf 5 _ rfl
 obtain⟨a5,k5,m5,r5⟩:=(iy Tryz.underlying3) h5
 have r5:R2 w _ ((cs.drop 5).take 1):=r5
 obtain⟨n6,y6,h6⟩:=hf 6 _ rfl
 obtain⟨a6,k6,m6,r6⟩:=FG h6
 have r6:R2 w _ ((cs.drop 6).take 4):=r6
 rw[bB a6] at m6 r6
 obtain⟨n7,y7,h7⟩:=hf 7 _ rfl
 obtain⟨a7,k7,m7,r7⟩:=(iy Tryz.underlying3) h7
 have r7:R2 w _ ((cs.drop 10).take 1):=r7
 obtain⟨n8,y8,h8⟩:=hf 8 _ rfl
 obtain⟨a8,k8,m8,r8⟩:=(qy Tryz.underlying9) h8
 have r8:R2 w _ ((cs.drop 11).take 1):=r8
 refine⟨⟨a0,a1,a2,a3,a4,a5,a6,a7,a8⟩,⟨k0,k1,k2,k3,k4,k5,k6,k7,k8⟩,?_,tn (v:=aj ⟨a0,a1,a2,a3,a4,a5,a6,a7,a8⟩) (ps:=[cells (str a0),cells (I a1),cells (I a2),cells (str a3),cells (I a4),cells (I a5),cells (bg a6),cells (I a7),cells (str a8)]) rfl ⟨r0,r1,r2,r3,r4,r5,r6,r7,r8,hl⟩⟩
 simp only[aj,nh,nhs,bg] at *
 simp_all
theorem HV:Rd Tryz.prog 25 aO Ul:=by
 intro H enc w sp held n cs x h
 obtain⟨hl,hf⟩:=rh Tryz.underlying25 h
 obtain⟨n0,y0,h0⟩:=hf 0 _ rfl
 obtain⟨a0,k0,m0,r0⟩:=(qx Tryz.underlying22 (qy Tryz.underlying9) (of_decide_eq_true (by kernel_rfl))) h0
 have r0:R2 w _ ((cs.drop 0).take 1):=r0
 obtain⟨n1,y1,h1⟩:=hf 1 _ rfl
 obtain⟨a1,k1,m1,r1⟩:=(qx Tryz.underlying23 (K9) (of_decide_eq_true (by kernel_rfl))) h1
 have r1:R2 w _ ((cs.drop 1).take 1):=r1
 refine⟨⟨a0,a1⟩,⟨k0,k1⟩,?_,tn (v:=aO ⟨a0,a1⟩) (ps:=[cells (.isl false ((a0).map str)),cells (.isl false ((a1).map aj))]) rfl ⟨r0,r1,hl⟩⟩
 exact⟨m0,m1,trivial⟩
theorem OB:Rd Tryz.prog 120 ae GR:=by
 intro H enc w sp held n cs x h
 obtain⟨hl,hf⟩:=rh Tryz.underlying120 h
 obtain⟨n0,y0,h0⟩:=hf 0 _ rfl
 obtain⟨a0,k0,m0,r0⟩:=(iy Tryz.underlying3) h0
 have r0:R2 w _ ((cs.drop 0).take 1):=r0
 obtain⟨n1,y1,h1⟩:=hf 1 _ rfl
 obtain⟨a1,k1,m1,r1⟩:=(iy Tryz.underlying3) h1
 have r1:R2 w _ ((cs.drop 1).take 1):=r1
 obtain⟨n2,y2,h2⟩:=hf 2 _ rfl
 obtain⟨a2,k2,m2,r2⟩:=(iy Tryz.underlying3) h2
 have r2:R2 w _ ((cs.drop 2).take 1):=r2
 obtain⟨n3,y3,h3⟩:=hf 3 _ rfl
 obtain⟨a3,k3,m3,r3⟩:=(iy Tryz.underlying3) h3
 have r3:R2 w _ ((cs.drop 3).take 1):=r3
 refine⟨⟨a0,a1,a2,a3⟩,⟨k0,k1,k2,k3⟩,?_,tn (v:=ae ⟨a0,a1,a2,a3⟩) (ps:=[cells (I a0),cells (I a1),cells (I a2),cells (I a3)]) rfl ⟨r0,r1,r2,r3,hl⟩⟩
 exact⟨m0,m1,m2,m3,trivial⟩
theorem OC:Rd Tryz.prog 41 b9 Bp:=by
 intro H enc w sp held n cs x h
 obtain⟨hl,hf⟩:=rh Tryz.underlying41 h
 obtain⟨n0,y0,h0⟩:=hf 0 _ rfl
 obtain⟨a0,k0,m0,r0⟩:=(iy Tryz.underlying3) h0
 have r0:R2 w _ ((cs.drop 0).take 1):=r0
 obtain⟨n1,y1,h1⟩:=hf 1 _ rfl
 obtain⟨a1,k1,m1,r1⟩:=(qx Tryz.underlying22 (qy Tryz.underlying9) (of_decide_eq_true (by kernel_rfl))) h1
 have r1:R2 w _ ((cs.drop 1).take 1):=r1
 obtain⟨n2,y2,h2⟩:=hf 2 _ rfl
 obtain⟨a2,k2,m2,r2⟩:=(qx Tryz.underlying39 (OB) (of_decide_eq_true (by kernel_rfl))) h2
 have r2:R2 w _ ((cs.drop 2).take 1):=r2
 obtain⟨n3,y3,h3⟩:=hf 3 _ rfl
 obtain⟨a3,k3,m3,r3⟩:=(qx Tryz.underlying27 (iy Tryz.underlying3) (of_decide_eq_true (by kernel_rfl))) h3
 have r3:R2 w _ ((cs.drop 3).take 1):=r3
 obtain⟨n4,y4,h4⟩:=hf 4 _ rfl
 obtain⟨a4,k4,m4,r4⟩:=(Yq Tryz.underlying4) h4
 have r4:R2 w _ ((cs.drop 4).take 1):=r4
 refine⟨⟨a0,a1,a2,a3,a4⟩,⟨k0,k1,k2,k3,k4⟩,?_,tn (v:=b9 ⟨a0,a1,a2,a3,a4⟩) (ps:=[cells (I a0),cells (.isl false ((a1).map str)),cells (.isl false ((a2).map ae)),cells (.isl false ((a3).map I)),cells (B a4)]) rfl ⟨r0,r1,r2,r3,r4,hl⟩⟩
 exact⟨m0,m1,m2,m3,m4,trivial⟩
set_option maxRecDepth 100000 in
theorem py (os : Os)(started : os.Started)(H : Type)(enc : TypeId × Value → H) :
    ReturnsInHanded {} Tryz.checked os 5 .any (fun w args=>(Rows.fnExactIsForbiddenSpec.pre enc Tryz.prog Tryz.f5 Rows.fnExactIsForbiddenRow.domain false w args ∧ laidMetH Tryz.prog Rows.fnExactIsForbiddenRow.laid w) ∧ sizedMet enc Tryz.prog Tryz.f5 (OpenSpec.ofChange Rows.fnExactIsForbiddenSpec) false w args)
      (Rows.fnExactIsForbiddenSpec.post enc Tryz.prog Tryz.f5 false true false false):=by
  refine returnsInHanded_of_change_and (C:=Tryz.checked) (X:=fun w _=>laidMetH Tryz.prog Rows.fnExactIsForbiddenRow.laid w) (fun _ _ _ hh h=>h.of_heap hh) Tryz.own started (by kernel_rfl) Tryz.func5
    (ChangeSpec.witness_shaped (enc:=enc) (C:=Tryz.checked) (os:=os) (X:=fun w _=>laidMetH Tryz.prog Rows.fnExactIsForbiddenRow.laid w) false (World.laidAll Tryz.prog os Rows.fnExactIsForbiddenRow.laid) #[.agg #[.slice none 0 0,.slice none 0 0],.agg #[.int .i64 0,.slice none 0 0,.slice none 0 0,.slice none 0 0,.bool false],.int .i64 0,.string ⟨#[]⟩] 8 (World.laidAll_os _ _ _)
      (World.shaped_of_ZipB (by kernel_rfl) (by kernel_rfl)) (by kernel_rfl) (by kernel_rfl) (by kernel_rfl)
      (by rw [MakeChecks.laidMetH_plain _ _ _ (by kernel_rfl)]; exact laidMet_laidAll _ (by kernel_rfl) (by kernel_rfl))) ?_
  intro W base args ds gs before hval0 hW _ _ hL _
  have hval : ∀ (j : Nat) t v,Tryz.f5.params[j]?=some t→args[j]?=some v→Value.okWide Tryz.prog W .any base t v:=hval0
  have hW0:=hW
  obtain ⟨p,q,hA0,_,_,_,_⟩:=hW
  have hA : DataW.TrodAll enc Tryz.prog W 0 (fun _=>true) true Tryz.f5.params.toList args.toList ds p:=hA0
  obtain ⟨vs,hg,hF⟩ : ∃ vs,ot Tryz.prog W Tryz.f5.params.toList vs args.toList ∧ gE.F vs=some (B true,[]):=by
    rw [Tryz.params5] at hA hval
    obtain ⟨v0,v1,v2,v3,d0,d1,d2,d3,p0,p1,p2,p3,rfl,rfl,rfl,h0,h1,h2,h3⟩:=trodAll_four hA
    obtain ⟨x0,k0,g0⟩:=MJ Tryz.underlying25 HV (fun _=>rfl) (hval 0 25 v0 rfl rfl) h0
    obtain ⟨x1,k1,g1⟩:=MJ Tryz.underlying41 OC (fun _=>rfl) (hval 1 41 v1 rfl rfl) h1
    obtain ⟨x2,k2,g2⟩:=XN Tryz.underlying3 (hval 2 3 v2 rfl rfl) h2
    obtain ⟨x3,k3,g3⟩:=XO Tryz.underlying9 (hval 3 9 v3 rfl rfl) h3
    refine ⟨[aO x0,b9 x1,I x2,str x3],?_,pC (ru x0 k0 x1 k1 x2 k2 x3 k3)⟩
    rw [Tryz.params5]
    exact ⟨g0,g1,g2,g3,trivial⟩
  refine (HR (P:=Tryz.prog) Tryz.func5 (c:=fM) (n:=4) ⟨rfl,rfl,by decide⟩ ob hg hF).mono fun e W' ⟨he,hB⟩=>⟨_,he,?_⟩
  refine Wc Tryz.laidOut (tb:=4) ?_ rfl Tryz.underlying4 rfl ?_ hW0 hB
  · have h0 : ∀ t ∈ ([25,41,3,9] : List TypeId),Tryz.prog.readableRec t=true ∧ t < Tryz.prog.types.size:=by
      intro t ht
      simp only [List.mem_cons,List.not_mem_nil,or_false] at ht
      rcases ht with rfl | rfl | rfl | rfl

      all_goals exact ⟨by kernel_rfl,of_decide_eq_true (by kernel_rfl)⟩
    exact h0
  · intro ds hd
    match ds,hd with
    | [d0,d1,d2,d3],_=>rfl
theorem fnExactIsForbidden_holds:Rows.FnExactIsForbiddenSaid:=
 OpenClaim.holds_of_wide 5 Tryz.f5 rfl rfl rfl rfl rfl rfl rfl ⟨rfl,rfl,rfl,rfl,rfl⟩ rfl rfl rfl rfl rfl (by as_aux_lemma=>kernel_rfl) Tryz.func5 (by unfold joinedFacts;refine fB (fB (fB (fB (fB (fB (fB (fB (fB (fB (fB (fB (fB (fB (fB (fB (fB (fB (fB (fB (fB (fB (fB (fB (fB (fB (fB (fB (fB (fB (fB ?_ ?_) ?_) ?_) ?_) ?_) ?_) ?_) ?_) ?_) ?_) ?_) ?_) ?_) ?_) ?_) ?_) ?_) ?_) ?_) ?_) ?_) ?_) ?_) ?_) ?_) ?_) ?_) ?_) ?_) ?_) ?_;all_goals as_aux_lemma=>kernel_rfl)
  (of_decide_eq_true (by as_aux_lemma=>kernel_rfl)) (by unfold Func.isWrapper;first | (rw[if_pos (by decide +kernel)];kernel_rfl) | (rw[if_neg (by decide +kernel)];exact⟨rfl,rfl⟩))
  (fun os started H enc _=>py os started H enc)
theorem fnExactIsForbidden_card:Rows.FnExactIsForbiddenCardSaid:=
 Claim7.holds_tied_plain_at .later [] [.data, .pinned] true (true, "e2917a715e184b55e1beafc66a71e08531f15812d1d9058bed9b898a9ff8d184") false
  fnExactIsForbidden_holds (fun _ h=>by cases h) (by as_aux_lemma=>kernel_rfl) (fun _ h=>by cases h) fnExactIsForbidden_row_tie rfl ⟨rfl,rfl⟩ (by as_aux_lemma=>kernel_rfl) rfl
  (fun f fn hf hfn=>by
   obtain rfl : f = 5 := Option.some.inj ((show Tryz.prog.funcNamed "loop.example/g00902/laws.FnExactIsForbidden" = some 5 by as_aux_lemma => kernel_rfl).symm.trans hf) |>.symm
   obtain rfl:fn=Tryz.f5:=(Option.some.inj (Tryz.func5.symm.trans hfn)).symm
   exact⟨by as_aux_lemma=>kernel_rfl,fun j t ht=>by
    rw[Tryz.params5] at ht
    have hm:t∈[25,41,3,9]:=by simpa using Array.mem_of_getElem? ht
    have hall:([25,41,3,9].all fun u=>!Tryz.prog.wantsStandIn u)=true:=by as_aux_lemma=>kernel_rfl
    exact (show Tryz.prog.wantsStandIn t=false by simpa using List.all_eq_true.1 hall t hm)⟩)
  (by as_aux_lemma=>kernel_rfl)
end Go.Proofs.YtcfddlacocdpoaaGreatDoor
