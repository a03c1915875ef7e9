/-
  MovesOf of the program and of the reference return the same, for all contracts.
-/
import Derived.Test.YtpbdjajabmdbcaaGreatDoorFnExactMovesOfPure
import Derived.Test.YtpbdjajabmdbcaaGreatDoorFnExactMovesOfRunB
import Derived.Test.YtpbdjajabmdbcaaGreatDoorCards
import Derived.Test.YtpbdjajabmdbcaaGreatDoorTie
import Derived.OpenShut
import Derived.LaidMore
import Derived.Lay
import Derived.SevenTiedAt
import Derived.Stop.Joined
set_option maxHeartbeats 4000000
set_option linter.unusedVariables false
set_option linter.unusedSimpArgs false
set_option maxRecDepth 100000
namespace Go.Proofs.YtpbdjajabmdbcaaGreatDoor
open Go Go.Ln Go.ChangeShapes Go.WideShapes Go.ChangeAt Go.RowKit
theorem Tryz.own:ownKnob Tryz.prog.godebug=none:=by kernel_rfl
theorem Tryz.laidOut:laidOutB Tryz.prog=true:=by kernel_rfl
theorem gh {a b:Bool}(h:a=true)(k:b=true):(a&&b)=true:=by rw[h,k];rfl
theorem FI:∀N,Sm N Tryz.prog 82 aF oJ:=by
 intro N
 induction N with
 | zero=>intro H enc w sp held n cs x hn h;omega
 | succ N ih=>
  intro H enc w sp held n cs x hn h
  obtain⟨d,rfl,hl,hf⟩:=Po Tryz.underlying82 h
  obtain⟨y0,h0⟩:=hf 0 _ rfl
  obtain⟨a0,k0,m0,r0⟩:=(rj Tryz.underlying3) h0
  have r0:R2 w _ ((cs.drop 0).take 1):=r0
  obtain⟨y1,h1⟩:=hf 1 _ rfl
  obtain⟨a1,k1,m1,r1⟩:=(xn Tryz.underlying9) h1
  have r1:R2 w _ ((cs.drop 1).take 1):=r1
  obtain⟨y2,h2⟩:=hf 2 _ rfl
  obtain⟨a2,k2,m2,r2⟩:=(rj Tryz.underlying3) h2
  have r2:R2 w _ ((cs.drop 2).take 1):=r2
  obtain⟨y3,h3⟩:=hf 3 _ rfl
  obtain⟨a3,k3,m3,r3⟩:=Hu Tryz.underlying80 ih (of_decide_eq_true (by kernel_rfl)) (show d<N+1 by omega) h3
  have r3:R2 w _ ((cs.drop 3).take 1):=r3
  refine⟨⟨a0,a1,a2,a3⟩,(Jf _).2 ⟨k0,k1,k2,k3⟩,?_,?_⟩
  ·rw[dC];exact⟨m0,m1,m2,m3,trivial⟩
  ·rw[dC];exact GI (v:=bB ⟨a0,a1,a2,a3⟩) (ps:=[cells (I a0),cells (str a1),cells (I a2),cells (.isl false ((a3).map aF))]) rfl ⟨r0,r1,r2,r3,hl⟩
theorem GH:Rd Tryz.prog 82 aF oJ:=Th FI
theorem MV:Rd Tryz.prog 84 aA si:=by
 intro H enc w sp held n cs x h
 obtain⟨hl,hf⟩:=Hv Tryz.underlying84 h
 obtain⟨n0,y0,h0⟩:=hf 0 _ rfl
 obtain⟨a0,k0,m0,r0⟩:=(xn Tryz.underlying9) h0
 have r0:R2 w _ ((cs.drop 0).take 1):=r0
 obtain⟨n1,y1,h1⟩:=hf 1 _ rfl
 obtain⟨a1,k1,m1,r1⟩:=(rj Tryz.underlying3) h1
 have r1:R2 w _ ((cs.drop 1).take 1):=r1
 obtain⟨n2,y2,h2⟩:=hf 2 _ rfl
 obtain⟨a2,k2,m2,r2⟩:=(rj Tryz.underlying3) h2
 have r2:R2 w _ ((cs.drop 2).take 1):=r2
 obtain⟨n3,y3,h3⟩:=hf 3 _ rfl
 obtain⟨a3,k3,m3,r3⟩:=(xn Tryz.underlying9) h3
 have r3:R2 w _ ((cs.drop 3).take 1):=r3
 obtain⟨n4,y4,h4⟩:=hf 4 _ rfl
 obtain⟨a4,k4,m4,r4⟩:=(rj Tryz.underlying3) h4
 have r4:R2 w _ ((cs.drop 4).take 1):=r4
 obtain⟨n5,y5,h5⟩:=hf 5 _ rfl
 obtain⟨a5,k5,m5,r5⟩:=(rj Tryz.underlying3) h5
 have r5:R2 w _ ((cs.drop 5).take 1):=r5
 obtain⟨n6,y6,h6⟩:=hf 6 _ rfl
 obtain⟨a6,k6,m6,r6⟩:=GH h6
 have r6:R2 w _ ((cs.drop 6).take 4):=r6
 rw[dC a6] at m6 r6
 obtain⟨n7,y7,h7⟩:=hf 7 _ rfl
 obtain⟨a7,k7,m7,r7⟩:=(rj Tryz.underlying3) h7
 have r7:R2 w _ ((cs.drop 10).take 1):=r7
 obtain⟨n8,y8,h8⟩:=hf 8 _ rfl
 obtain⟨a8,k8,m8,r8⟩:=(xn Tryz.underlying9) h8
 have r8:R2 w _ ((cs.drop 11).take 1):=r8
 refine⟨⟨a0,a1,a2,a3,a4,a5,a6,a7,a8⟩,⟨k0,k1,k2,k3,k4,k5,k6,k7,k8⟩,?_,GI (v:=aA ⟨a0,a1,a2,a3,a4,a5,a6,a7,a8⟩) (ps:=[cells (str a0),cells (I a1),cells (I a2),cells (str a3),cells (I a4),cells (I a5),cells (bB a6),cells (I a7),cells (str a8)]) rfl ⟨r0,r1,r2,r3,r4,r5,r6,r7,r8,hl⟩⟩
 simp only[aA,nh,nhs,bB] at *
 simp_all
theorem HM:Rd Tryz.prog 25 bn Ud:=by
 intro H enc w sp held n cs x h
 obtain⟨hl,hf⟩:=Hv Tryz.underlying25 h
 obtain⟨n0,y0,h0⟩:=hf 0 _ rfl
 obtain⟨a0,k0,m0,r0⟩:=(K6 Tryz.underlying22 (xn Tryz.underlying9) (of_decide_eq_true (by kernel_rfl))) h0
 have r0:R2 w _ ((cs.drop 0).take 1):=r0
 obtain⟨n1,y1,h1⟩:=hf 1 _ rfl
 obtain⟨a1,k1,m1,r1⟩:=(K6 Tryz.underlying23 (MV) (of_decide_eq_true (by kernel_rfl))) h1
 have r1:R2 w _ ((cs.drop 1).take 1):=r1
 refine⟨⟨a0,a1⟩,⟨k0,k1⟩,?_,GI (v:=bn ⟨a0,a1⟩) (ps:=[cells (.isl false ((a0).map str)),cells (.isl false ((a1).map aA))]) rfl ⟨r0,r1,hl⟩⟩
 exact⟨m0,m1,trivial⟩
set_option maxRecDepth 100000 in
theorem tV (os : Os)(started : os.Started)(H : Type)(enc : TypeId × Value → H) :
    ReturnsInHanded {} Tryz.checked os 5 .any (fun w args=>(Rows.fnExactMovesOfSpec.pre enc Tryz.prog Tryz.f5 Rows.fnExactMovesOfRow.domain false w args ∧ laidMetH Tryz.prog Rows.fnExactMovesOfRow.laid w) ∧ sizedMet enc Tryz.prog Tryz.f5 (OpenSpec.ofChange Rows.fnExactMovesOfSpec) false w args)
      (Rows.fnExactMovesOfSpec.post enc Tryz.prog Tryz.f5 false true false false):=by
  refine returnsInHanded_of_change_and (C:=Tryz.checked) (X:=fun w _=>laidMetH Tryz.prog Rows.fnExactMovesOfRow.laid w) (fun _ _ _ hh h=>h.of_heap hh) Tryz.own started (by kernel_rfl) Tryz.func5
    (ChangeSpec.witness_shaped (enc:=enc) (C:=Tryz.checked) (os:=os) (X:=fun w _=>laidMetH Tryz.prog Rows.fnExactMovesOfRow.laid w) false (World.laidAll Tryz.prog os Rows.fnExactMovesOfRow.laid) #[.agg #[.slice none 0 0,.slice none 0 0]] 8 (World.laidAll_os _ _ _)
      (World.shaped_of_ZipB (by kernel_rfl) (by kernel_rfl)) (by kernel_rfl) (by kernel_rfl) (by kernel_rfl)
      (by rw [MakeChecks.laidMetH_plain _ _ _ (by kernel_rfl)]; exact laidMet_laidAll _ (by kernel_rfl) (by kernel_rfl))) ?_
  intro W base args ds gs before hval0 hW _ _ hL _
  have hval : ∀ (j : Nat) t v,Tryz.f5.params[j]?=some t→args[j]?=some v→Value.okWide Tryz.prog W .any base t v:=hval0
  have hW0:=hW
  obtain ⟨p,q,hA0,_,_,_,_⟩:=hW
  have hA : DataW.TrodAll enc Tryz.prog W 0 (fun _=>true) true Tryz.f5.params.toList args.toList ds p:=hA0
  obtain ⟨vs,hg,hF⟩ : ∃ vs,pc Tryz.prog W Tryz.f5.params.toList vs args.toList ∧ jc.F vs=some (B true,[]):=by
    rw [Tryz.params5] at hA hval
    obtain ⟨v0,d0,rfl,rfl,h0⟩:=trodAll_one hA
    obtain ⟨x0,k0,g0⟩:=XU Tryz.underlying25 HM (fun _=>rfl) (hval 0 25 v0 rfl rfl) h0
    refine ⟨[bn x0],?_,ue (xd x0 k0)⟩
    rw [Tryz.params5]
    exact ⟨g0,trivial⟩
  refine (HI (P:=Tryz.prog) Tryz.func5 (c:=fE) (n:=1) ⟨rfl,rfl,by decide⟩ rd hg hF).mono fun e W' ⟨he,hB⟩=>⟨_,he,?_⟩
  refine V2 Tryz.laidOut (tb:=4) ?_ rfl Tryz.underlying4 rfl ?_ hW0 hB
  · have h0 : ∀ t ∈ ([25] : List TypeId),Tryz.prog.readableRec t=true ∧ t < Tryz.prog.types.size:=by
      intro t ht
      simp only [List.mem_cons,List.not_mem_nil,or_false] at ht
      subst ht

      all_goals exact ⟨by kernel_rfl,of_decide_eq_true (by kernel_rfl)⟩
    exact h0
  · intro ds hd
    match ds,hd with
    | [d0],_=>rfl
theorem fnExactMovesOf_holds:Rows.FnExactMovesOfSaid:=
 OpenClaim.holds_of_wide 5 Tryz.f5 rfl rfl rfl rfl rfl rfl rfl ⟨rfl,rfl,rfl,rfl,rfl⟩ rfl rfl rfl rfl rfl (by as_aux_lemma=>kernel_rfl) Tryz.func5 (by unfold joinedFacts;refine gh (gh (gh (gh (gh (gh (gh (gh (gh (gh (gh (gh (gh (gh (gh (gh (gh (gh (gh (gh (gh (gh (gh (gh (gh (gh (gh (gh (gh (gh (gh ?_ ?_) ?_) ?_) ?_) ?_) ?_) ?_) ?_) ?_) ?_) ?_) ?_) ?_) ?_) ?_) ?_) ?_) ?_) ?_) ?_) ?_) ?_) ?_) ?_) ?_) ?_) ?_) ?_) ?_) ?_) ?_;all_goals as_aux_lemma=>kernel_rfl)
  (of_decide_eq_true (by as_aux_lemma=>kernel_rfl)) (by unfold Func.isWrapper;first | (rw[if_pos (by decide +kernel)];kernel_rfl) | (rw[if_neg (by decide +kernel)];exact⟨rfl,rfl⟩))
  (fun os started H enc _=>tV os started H enc)
theorem fnExactMovesOf_card:Rows.FnExactMovesOfCardSaid:=
 Claim7.holds_tied_plain_at .later [] [.data, .pinned] true (true, "ec0e854c9ba01553e64f9539432d688878dff7f40ed6596c5fe714c0ff5ab62a") false
  fnExactMovesOf_holds (fun _ h=>by cases h) (by as_aux_lemma=>kernel_rfl) (fun _ h=>by cases h) fnExactMovesOf_row_tie rfl ⟨rfl,rfl⟩ (by as_aux_lemma=>kernel_rfl) rfl
  (fun f fn hf hfn=>by
   obtain rfl : f = 5 := Option.some.inj ((show Tryz.prog.funcNamed "loop.example/g00902/laws.FnExactMovesOf" = some 5 by as_aux_lemma => kernel_rfl).symm.trans hf) |>.symm
   obtain rfl:fn=Tryz.f5:=(Option.some.inj (Tryz.func5.symm.trans hfn)).symm
   exact⟨by as_aux_lemma=>kernel_rfl,fun j t ht=>by
    rw[Tryz.params5] at ht
    have hm:t∈[25]:=by simpa using Array.mem_of_getElem? ht
    have hall:([25].all fun u=>!Tryz.prog.wantsStandIn u)=true:=by as_aux_lemma=>kernel_rfl
    exact (show Tryz.prog.wantsStandIn t=false by simpa using List.all_eq_true.1 hall t hm)⟩)
  (by as_aux_lemma=>kernel_rfl)
end Go.Proofs.YtpbdjajabmdbcaaGreatDoor
