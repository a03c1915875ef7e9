/-
  Each function of the program computes its plain function.
-/
import Derived.Test.YtobhcnmeflacnaaGreatDoorFnExactIsFulfilledRunA
set_option maxHeartbeats 4000000
set_option linter.unusedVariables false
set_option linter.unusedSimpArgs false
set_option maxRecDepth 100000
namespace Go.Ln
open Go Go.Proofs
theorem Tr (c_1:Contract)(i_2:Int)(r:Bool)(h:Ia c_1 i_2=some r):bc iq Tryz.f124 [false,false] 0 (FP (c_1,i_2)) (F4 r):=by
 show Run _ _ (dm (c_1,i_2) r) [.code jQ] _
 refine rI 119 [(0,.agg [.isl false (c_1.Parties.map str),.isl false (c_1.Clauses.map aa)]),(1,I i_2)] [] 1 ?_
 unfold Ia at h
 refine ck 10 [2,9,10] [] [1] [] [.hp 1 0 [] 2 0 0,.isl false (c_1.Clauses.map aa),I i_2] [some ⟨0,2,[.agg [.isl false (c_1.Parties.map str),.isl false (c_1.Clauses.map aa)]]⟩] 81 (by kernel_rfl) ?_
 obtain⟨e3,he3,h⟩:=bS h
 refine oq 97 (.iptr (.agg [str e3.Id,I e3.Kind,I e3.Party,str e3.Action,I e3.Other,I e3.Amount,I e3.When.Op,str e3.When.Name,I e3.When.Day,.isl false (e3.When.Parts.map ac),I e3.Within,str e3.Repair]) 0) rfl (an rfl rfl rfl (aM rfl rfl rfl rfl he3)) ?_
 refine ck 2 [5,12] [] [113] [] [.hp 113 0 [] 12 0 0,.agg [str e3.Id,I e3.Kind,I e3.Party,str e3.Action,I e3.Other,I e3.Amount,I e3.When.Op,str e3.When.Name,I e3.When.Day,.isl false (e3.When.Parts.map ac),I e3.Within,str e3.Repair]] [some ⟨0,12,[.agg [str ([]),I (0),I (0),str ([]),I (0),I (0),I (0),str ([]),I (0),.isl true [],I (0),str ([])]]⟩] 129 (by kernel_rfl) ?_
 refine d9 113 [.agg [str ([]),I (0),I (0),str ([]),I (0),I (0),I (0),str ([]),I (0),.usl 4 (([]).map ap),I (0),str ([])]] rfl rfl (au (fg (au (.refl _) (au (.refl _) (au (.refl _) (au (.refl _) (au (.refl _) (au (.refl _) (au (.refl _) (au (.refl _) (au (.refl _) (au (.nil _) (au (.refl _) (au (.refl _) dz))))))))))))) dz) ?_
 refine ck 6 [14] [] [113] [] [.isl false (c_1.Parties.map str)] [some ⟨2,12,[.agg [str e3.Id,I e3.Kind,I e3.Party,str e3.Action,I e3.Other,I e3.Amount,I e3.When.Op,str e3.When.Name,I e3.When.Day,.isl false (e3.When.Parts.map ac),I e3.Within,str e3.Repair]]⟩] 177 (by kernel_rfl) ?_
 refine oq 193 (I (len c_1.Parties)) rfl (aW rfl rfl rfl (bb rfl)) ?_
 refine cq 8 [6,18] [I (ar ((len c_1.Parties) - 1)),str e3.Id] 257 ?_
 obtain⟨r4,hr4,h⟩:=bS h
 refine oq 273 (B r4) rfl (cP (zt hr4)) ?_
 refine cq 2 [21] [B (!r4)] 305 ?_
 obtain⟨y5,hy5,hy51,hy52⟩:=bJ h
 have j5:∀u5,y5=.inr u5→Run iq 0 (dm (c_1,i_2) r) (.code (cR (cL (cR (cR (cR jQ)))))::.code (cR (cR (cR (cR jQ))))::[]) (sT 119 [(1,I i_2),(2,.hp 1 0 [] 2 0 0),(5,.hp 2 0 [] 12 0 0),(6,I (ar ((len c_1.Parties) - 1))),(40,B u5)] [⟨0,2,[.agg [.isl false (c_1.Parties.map str),.isl false (c_1.Clauses.map aa)]]⟩,⟨0,12,[.agg [str e3.Id,I e3.Kind,I e3.Party,str e3.Action,I e3.Other,I e3.Amount,I e3.When.Op,str e3.When.Name,I e3.When.Day,.isl false (e3.When.Parts.map ac),I e3.Within,str e3.Repair]]⟩] 3):=by
  intro u5 hu
  replace h:=hy52 u5 hu
  refine sq h (fun h=>?_) fun h=>?_
  ·refine cq 4 [4] [B false] 19 ?_
   obtain rfl:=Option.some.inj h
   exact ai rfl (qp [B false])
  ·refine aq 1 ?_
   refine cq 6 [42,43] [I e3.Party,I (ar ((len c_1.Parties) - 1))] 51 ?_
   obtain⟨r6,hr6,h⟩:=bS h
   refine oq 67 (B r6) rfl (cP (iV hr6)) ?_
   refine cq 2 [46] [B (!r6)] 99 ?_
   obtain⟨y7,hy7,hy71,hy72⟩:=bJ h
   have j7:∀u7,y7=.inr u7→Run iq 0 (dm (c_1,i_2) r) (.code GU::.code (cR (cR (cR (cR (cR jQ)))))::[]) (sT 119 [(1,I i_2),(2,.hp 1 0 [] 2 0 0),(5,.hp 2 0 [] 12 0 0),(65,B u7)] [⟨0,2,[.agg [.isl false (c_1.Parties.map str),.isl false (c_1.Clauses.map aa)]]⟩,⟨0,12,[.agg [str e3.Id,I e3.Kind,I e3.Party,str e3.Action,I e3.Other,I e3.Amount,I e3.When.Op,str e3.When.Name,I e3.When.Day,.isl false (e3.When.Parts.map ac),I e3.Within,str e3.Repair]]⟩] 3):=by
    intro u7 hu
    replace h:=hy72 u7 hu
    refine sq h (fun h=>?_) fun h=>?_
    ·refine cq 4 [4] [B false] 19 ?_
     obtain rfl:=Option.some.inj h
     exact ai rfl (qp [B false])
    ·refine aq 1 ?_
     refine cq 5 [67] [I e3.Amount] 35 ?_
     obtain⟨r8,hr8,h⟩:=bS h
     refine oq 51 (B r8) rfl (cP (iV hr8)) ?_
     refine cq 2 [70] [B (!r8)] 83 ?_
     obtain⟨y9,hy9,hy91,hy92⟩:=bJ h
     have j9:∀u9,y9=.inr u9→Run iq 0 (dm (c_1,i_2) r) (.code Cz::.code tT::[]) (sT 119 [(1,I i_2),(2,.hp 1 0 [] 2 0 0),(5,.hp 2 0 [] 12 0 0),(90,B u9)] [⟨0,2,[.agg [.isl false (c_1.Parties.map str),.isl false (c_1.Clauses.map aa)]]⟩,⟨0,12,[.agg [str e3.Id,I e3.Kind,I e3.Party,str e3.Action,I e3.Other,I e3.Amount,I e3.When.Op,str e3.When.Name,I e3.When.Day,.isl false (e3.When.Parts.map ac),I e3.Within,str e3.Repair]]⟩] 3):=by
      intro u9 hu
      replace h:=hy92 u9 hu
      refine sq h (fun h=>?_) fun h=>?_
      ·refine cq 4 [4] [B false] 19 ?_
       obtain rfl:=Option.some.inj h
       exact ai rfl (qp [B false])
      ·refine aq 1 ?_
       refine cq 7 [93] [B (e3.Repair==([]:ah))] 51 ?_
       refine sq h (fun h=>?_) fun h=>?_
       ·refine cq 4 [4] [B true] 67 ?_
        obtain rfl:=Option.some.inj h
        exact ai rfl (qp [B true])
       ·refine aq 1 ?_
        refine cq 5 [94,96] [.agg [.isl false (c_1.Parties.map str),.isl false (c_1.Clauses.map aa)],str e3.Repair] 99 ?_
        obtain⟨r10,hr10,h⟩:=bS h
        refine oq 115 (I r10) rfl (cP (ST hr10)) ?_
        refine cq 8 [7,101] [I r10,B (e3.Kind != 3)] 195 ?_
        obtain⟨y11,hy11,hy111,hy112⟩:=bJ h
        have j11:∀u11,y11=.inr u11→Run iq 0 (dm (c_1,i_2) r) (.code Ha::[]) (sT 119 [(4,B u11)] [] 1):=by
         intro u11 hu
         replace h:=hy112 u11 hu
         obtain rfl:=Option.some.inj h
         exact ai rfl (qp [B u11])
        have r11:∀r',y11=.inl r'→∀st,dm (c_1,i_2) r' st→(dm (c_1,i_2) r) st:=fun r' e st hq=>by rw[hy111 r' e] at hq;exact hq
        replace h:=hy11
        refine sp 101 h rfl (fun h=>?_) fun h=>?_
        ·refine cq 4 [105] [B (decide (r10≥0))] 259 ?_
         obtain⟨y12,hy12,hy121,hy122⟩:=bL h
         have j12:∀u12,y12=.inr u12→Run iq 0 (dm (c_1,i_2) r) (.code Ha::[]) (sT 119 [(4,B u12)] [] 1):=by
          intro u12 hu
          replace h:=hy122 u12 hu
          exact rf [4] [] (j11 _ (Option.some.inj h).symm :)
         have r12:∀r',y12=.inl r'→∀st,dm (c_1,i_2) r' st→(dm (c_1,i_2) r) st:=fun r' e st hq=>r11 r' (hy121 r' e) st hq
         replace h:=hy12
         refine sp 105 h rfl (fun h=>?_) fun h=>?_
         ·refine cq 5 [110] [B (r10 != i_2)] 339 ?_
          obtain⟨y13,hy13,hy131,hy132⟩:=bL h
          have j13:∀u13,y13=.inr u13→Run iq 0 (dm (c_1,i_2) r) (.code Ha::[]) (sT 119 [(4,B u13)] [] 1):=by
           intro u13 hu
           replace h:=hy132 u13 hu
           exact rf [4] [] (j12 _ (Option.some.inj h).symm :)
          have r13:∀r',y13=.inl r'→∀st,dm (c_1,i_2) r' st→(dm (c_1,i_2) r) st:=fun r' e st hq=>r12 r' (hy131 r' e) st hq
          replace h:=hy13
          refine sp 110 h rfl (fun h=>?_) fun h=>?_
          ·refine cq 3 [112,113] [.isl false (c_1.Clauses.map aa),I r10] 387 ?_
           obtain⟨e14,he14,h⟩:=bS h
           refine oy 403 (.iptr (.agg [str e14.Id,I e14.Kind,I e14.Party,str e14.Action,I e14.Other,I e14.Amount,I e14.When.Op,str e14.When.Name,I e14.When.Day,.isl false (e14.When.Parts.map ac),I e14.Within,str e14.Repair]) 0) rfl (an rfl rfl rfl (aM rfl rfl rfl rfl he14)) ?_
           refine cq 6 [4] [B (e14.Kind==1)] 483 ?_
           exact rf [4] [] (j13 _ (Option.some.inj h).symm :)
          ·refine cq 10 [4] [B false] 483 ?_
           exact rf [4] [] (j13 _ (Option.some.inj h).symm :)
         ·refine cq 15 [4] [B false] 483 ?_
          exact rf [4] [] (j12 _ (Option.some.inj h).symm :)
        ·refine cq 19 [4] [B false] 483 ?_
         exact rf [4] [] (j11 _ (Option.some.inj h).symm :)
     have r9:∀r',y9=.inl r'→∀st,dm (c_1,i_2) r' st→(dm (c_1,i_2) r) st:=fun r' e st hq=>by rw[hy91 r' e] at hq;exact hq
     replace h:=hy9
     refine sp 70 h rfl (fun h=>?_) fun h=>?_
     ·refine cq 21 [90] [B true] 403 ?_
      exact rf [1,2,5,90] [1,2] (j9 _ (Option.some.inj h).symm :)
     ·refine cq 2 [72] [I e3.Within] 115 ?_
      obtain⟨r15,hr15,h⟩:=bS h
      refine oy 131 (B r15) rfl (cP (iV hr15)) ?_
      refine cq 3 [76] [B (!r15)] 179 ?_
      obtain⟨u16,hu16,h⟩:=lJ h
      have j16:Run iq 0 (dm (c_1,i_2) r) (.code Cz::.code tT::[]) (sT 119 [(1,I i_2),(2,.hp 1 0 [] 2 0 0),(5,.hp 2 0 [] 12 0 0),(90,B u16)] [⟨0,2,[.agg [.isl false (c_1.Parties.map str),.isl false (c_1.Clauses.map aa)]]⟩,⟨0,12,[.agg [str e3.Id,I e3.Kind,I e3.Party,str e3.Action,I e3.Other,I e3.Amount,I e3.When.Op,str e3.When.Name,I e3.When.Day,.isl false (e3.When.Parts.map ac),I e3.Within,str e3.Repair]]⟩] 3):=by
       exact rf [1,2,5,90] [1,2] (j9 _ (Option.some.inj h).symm :)
      replace h:=hu16
      clear hu16
      refine sp 76 h rfl (fun h=>?_) fun h=>?_
      ·refine cq 15 [90] [B true] 403 ?_
       subst h
       exact rf [1,2,5,90] [1,2] (j16 :)
      ·refine cq 4 [80] [B (e3.Kind != 1)] 243 ?_
       obtain⟨u17,hu17,h⟩:=lJ h
       have j17:Run iq 0 (dm (c_1,i_2) r) (.code Cz::.code tT::[]) (sT 119 [(1,I i_2),(2,.hp 1 0 [] 2 0 0),(5,.hp 2 0 [] 12 0 0),(90,B u17)] [⟨0,2,[.agg [.isl false (c_1.Parties.map str),.isl false (c_1.Clauses.map aa)]]⟩,⟨0,12,[.agg [str e3.Id,I e3.Kind,I e3.Party,str e3.Action,I e3.Other,I e3.Amount,I e3.When.Op,str e3.When.Name,I e3.When.Day,.isl false (e3.When.Parts.map ac),I e3.Within,str e3.Repair]]⟩] 3):=by
        subst h
        exact rf [1,2,5,90] [1,2] (j16 :)
       replace h:=hu17
       clear hu17
       refine sp 80 h rfl (fun h=>?_) fun h=>?_
       ·refine cq 4 [84] [B (e3.Amount != 0)] 307 ?_
        obtain⟨u18,hu18,h⟩:=lJ h
        have j18:Run iq 0 (dm (c_1,i_2) r) (.code Cz::.code tT::[]) (sT 119 [(1,I i_2),(2,.hp 1 0 [] 2 0 0),(5,.hp 2 0 [] 12 0 0),(90,B u18)] [⟨0,2,[.agg [.isl false (c_1.Parties.map str),.isl false (c_1.Clauses.map aa)]]⟩,⟨0,12,[.agg [str e3.Id,I e3.Kind,I e3.Party,str e3.Action,I e3.Other,I e3.Amount,I e3.When.Op,str e3.When.Name,I e3.When.Day,.isl false (e3.When.Parts.map ac),I e3.Within,str e3.Repair]]⟩] 3):=by
         subst h
         exact rf [1,2,5,90] [1,2] (j17 :)
        replace h:=hu18
        clear hu18
        refine sp 84 h rfl (fun h=>?_) fun h=>?_
        ·refine cq 7 [90] [B true] 403 ?_
         subst h
         exact rf [1,2,5,90] [1,2] (j18 :)
        ·refine cq 7 [90] [B (e3.Within != 0)] 403 ?_
         subst h
         exact rf [1,2,5,90] [1,2] (j18 :)
       ·refine cq 11 [90] [B false] 403 ?_
        subst h
        exact rf [1,2,5,90] [1,2] (j17 :)
   have r7:∀r',y7=.inl r'→∀st,dm (c_1,i_2) r' st→(dm (c_1,i_2) r) st:=fun r' e st hq=>by rw[hy71 r' e] at hq;exact hq
   replace h:=hy7
   refine sp 46 h rfl (fun h=>?_) fun h=>?_
   ·refine cq 20 [65] [B true] 403 ?_
    exact rf [1,2,5,65] [1,2] (j7 _ (Option.some.inj h).symm :)
   ·refine cq 3 [48,49] [I e3.Other,I (ar ((len c_1.Parties) - 1))] 147 ?_
    obtain⟨r19,hr19,h⟩:=bS h
    refine oy 163 (B r19) rfl (cP (iV hr19)) ?_
    refine cq 3 [53] [B (!r19)] 211 ?_
    obtain⟨y20,hy20,hy201,hy202⟩:=bL h
    have j20:∀u20,y20=.inr u20→Run iq 0 (dm (c_1,i_2) r) (.code GU::.code (cR (cR (cR (cR (cR jQ)))))::[]) (sT 119 [(1,I i_2),(2,.hp 1 0 [] 2 0 0),(5,.hp 2 0 [] 12 0 0),(65,B u20)] [⟨0,2,[.agg [.isl false (c_1.Parties.map str),.isl false (c_1.Clauses.map aa)]]⟩,⟨0,12,[.agg [str e3.Id,I e3.Kind,I e3.Party,str e3.Action,I e3.Other,I e3.Amount,I e3.When.Op,str e3.When.Name,I e3.When.Day,.isl false (e3.When.Parts.map ac),I e3.Within,str e3.Repair]]⟩] 3):=by
     intro u20 hu
     replace h:=hy202 u20 hu
     exact rf [1,2,5,65] [1,2] (j7 _ (Option.some.inj h).symm :)
    have r20:∀r',y20=.inl r'→∀st,dm (c_1,i_2) r' st→(dm (c_1,i_2) r) st:=fun r' e st hq=>r7 r' (hy201 r' e) st hq
    replace h:=hy20
    refine sp 53 h rfl (fun h=>?_) fun h=>?_
    ·refine cq 13 [65] [B true] 403 ?_
     exact rf [1,2,5,65] [1,2] (j20 _ (Option.some.inj h).symm :)
    ·refine cq 7 [60] [B (e3.Party==e3.Other)] 323 ?_
     obtain⟨y21,hy21,hy211,hy212⟩:=bL h
     have j21:∀u21,y21=.inr u21→Run iq 0 (dm (c_1,i_2) r) (.code GU::.code (cR (cR (cR (cR (cR jQ)))))::[]) (sT 119 [(1,I i_2),(2,.hp 1 0 [] 2 0 0),(5,.hp 2 0 [] 12 0 0),(65,B u21)] [⟨0,2,[.agg [.isl false (c_1.Parties.map str),.isl false (c_1.Clauses.map aa)]]⟩,⟨0,12,[.agg [str e3.Id,I e3.Kind,I e3.Party,str e3.Action,I e3.Other,I e3.Amount,I e3.When.Op,str e3.When.Name,I e3.When.Day,.isl false (e3.When.Parts.map ac),I e3.Within,str e3.Repair]]⟩] 3):=by
      intro u21 hu
      replace h:=hy212 u21 hu
      exact rf [1,2,5,65] [1,2] (j20 _ (Option.some.inj h).symm :)
     have r21:∀r',y21=.inl r'→∀st,dm (c_1,i_2) r' st→(dm (c_1,i_2) r) st:=fun r' e st hq=>r20 r' (hy211 r' e) st hq
     replace h:=hy21
     refine sp 60 h rfl (fun h=>?_) fun h=>?_
     ·refine cq 6 [65] [B true] 403 ?_
      exact rf [1,2,5,65] [1,2] (j21 _ (Option.some.inj h).symm :)
     ·refine cq 2 [62] [.agg [I e3.When.Op,str e3.When.Name,I e3.When.Day,.isl false (e3.When.Parts.map ac)]] 355 ?_
      obtain⟨r22,hr22,h⟩:=bS h
      refine oy 371 (B r22) rfl (cP (Xr hr22)) ?_
      refine cq 3 [65] [B (!r22)] 403 ?_
      exact rf [1,2,5,65] [1,2] (j21 _ (Option.some.inj h).symm :)
 have r5:∀r',y5=.inl r'→∀st,dm (c_1,i_2) r' st→(dm (c_1,i_2) r) st:=fun r' e st hq=>by rw[hy51 r' e] at hq;exact hq
 replace h:=hy5
 refine sp 21 h rfl (fun h=>?_) fun h=>?_
 ·refine cq 20 [40] [B true] 609 ?_
  exact rf [1,2,5,6,40] [1,113] (j5 _ (Option.some.inj h).symm :)
 ·refine cq 3 [22,24] [.agg [.isl false (c_1.Parties.map str),.isl false (c_1.Clauses.map aa)],str e3.Id] 353 ?_
  obtain⟨r23,hr23,h⟩:=bS h
  refine oy 369 (I r23) rfl (cP (ST hr23)) ?_
  refine cq 4 [29] [B (r23 != i_2)] 433 ?_
  obtain⟨y24,hy24,hy241,hy242⟩:=bL h
  have j24:∀u24,y24=.inr u24→Run iq 0 (dm (c_1,i_2) r) (.code (cR (cL (cR (cR (cR jQ)))))::.code (cR (cR (cR (cR jQ))))::[]) (sT 119 [(1,I i_2),(2,.hp 1 0 [] 2 0 0),(5,.hp 2 0 [] 12 0 0),(6,I (ar ((len c_1.Parties) - 1))),(40,B u24)] [⟨0,2,[.agg [.isl false (c_1.Parties.map str),.isl false (c_1.Clauses.map aa)]]⟩,⟨0,12,[.agg [str e3.Id,I e3.Kind,I e3.Party,str e3.Action,I e3.Other,I e3.Amount,I e3.When.Op,str e3.When.Name,I e3.When.Day,.isl false (e3.When.Parts.map ac),I e3.Within,str e3.Repair]]⟩] 3):=by
   intro u24 hu
   replace h:=hy242 u24 hu
   exact rf [1,2,5,6,40] [1,2] (j5 _ (Option.some.inj h).symm :)
  have r24:∀r',y24=.inl r'→∀st,dm (c_1,i_2) r' st→(dm (c_1,i_2) r) st:=fun r' e st hq=>r5 r' (hy241 r' e) st hq
  replace h:=hy24
  refine sp 29 h rfl (fun h=>?_) fun h=>?_
  ·refine cq 12 [40] [B true] 609 ?_
   exact rf [1,2,5,6,40] [1,113] (j24 _ (Option.some.inj h).symm :)
  ·refine cq 2 [31] [str e3.Action] 465 ?_
   obtain⟨r25,hr25,h⟩:=bS h
   refine oy 481 (B r25) rfl (cP (zt hr25)) ?_
   refine cq 3 [35] [B (!r25)] 529 ?_
   obtain⟨y26,hy26,hy261,hy262⟩:=bL h
   have j26:∀u26,y26=.inr u26→Run iq 0 (dm (c_1,i_2) r) (.code (cR (cL (cR (cR (cR jQ)))))::.code (cR (cR (cR (cR jQ))))::[]) (sT 119 [(1,I i_2),(2,.hp 1 0 [] 2 0 0),(5,.hp 2 0 [] 12 0 0),(6,I (ar ((len c_1.Parties) - 1))),(40,B u26)] [⟨0,2,[.agg [.isl false (c_1.Parties.map str),.isl false (c_1.Clauses.map aa)]]⟩,⟨0,12,[.agg [str e3.Id,I e3.Kind,I e3.Party,str e3.Action,I e3.Other,I e3.Amount,I e3.When.Op,str e3.When.Name,I e3.When.Day,.isl false (e3.When.Parts.map ac),I e3.Within,str e3.Repair]]⟩] 3):=by
    intro u26 hu
    replace h:=hy262 u26 hu
    exact rf [1,2,5,6,40] [1,2] (j24 _ (Option.some.inj h).symm :)
   have r26:∀r',y26=.inl r'→∀st,dm (c_1,i_2) r' st→(dm (c_1,i_2) r) st:=fun r' e st hq=>r24 r' (hy261 r' e) st hq
   replace h:=hy26
   refine sp 35 h rfl (fun h=>?_) fun h=>?_
   ·refine cq 6 [40] [B true] 609 ?_
    exact rf [1,2,5,6,40] [1,113] (j26 _ (Option.some.inj h).symm :)
   ·refine cq 2 [37] [I e3.Kind] 561 ?_
    obtain⟨r27,hr27,h⟩:=bS h
    refine oy 577 (B r27) rfl (cP (iV hr27)) ?_
    refine cq 3 [40] [B (!r27)] 609 ?_
    exact rf [1,2,5,6,40] [1,113] (j26 _ (Option.some.inj h).symm :)
theorem Q6 {G:Go.Ln.Ground}:aH Tryz.prog G 124 DX:=gT 2 0 (aD rD (aD jD (aD RP (aD RD bf)))) (Checked.mixed Tryz.checked) Tryz.func124 (fun a r h=>Tr a.1 a.2 r h)
def zm:(Condition×(List ah))→List V:=cA aU (oA (CV 1 str))
def AU (r:(List ah)):V×List V:=(.usl 1 (r.map str),[.dead])
noncomputable def wY (slf_Ffg:(Condition×(List ah))→Option (List ah)):Ent:=aP [false,true] zm AU slf_Ffg
theorem Nb (slf_Ffg:(Condition×(List ah))→Option (List ah)){x}{r}(h:slf_Ffg x=some r):(wY slf_Ffg).F (zm x)=some (AU r):=aA (aY cf (aB (oc bm))) h
noncomputable def DK:Ent:=wY (aJ lP)
theorem SP {c_3:Condition}{list_4:List ah}{r}(h:NN c_3 list_4=some r):DK.F (zm (c_3,list_4))=some (AU r):=Nb (aJ lP) h
noncomputable def K7:Code:=ay Tryz.f186
noncomputable def FY (slf_Ffg:(Condition×(List ah))→Option (List ah)):Env:=bC Tryz.prog [(186,(wY slf_Ffg))]
def Ck (slf_Ffg:(Condition×(List ah))→Option (List ah))(x:Condition×(List ah))(r:(List ah)):St→Prop:=QF (FY slf_Ffg) Tryz.f186 [false,true] (zm x) (AU r)
theorem Kz (slf_Ffg:(Condition×(List ah))→Option (List ah))(c_3:Condition)(list_4:List ah):b9 (FY slf_Ffg) 1 (Ck slf_Ffg (c_3,list_4)) (cL (cL (cR (cL (cR (cR K7)))))) 0 (lE slf_Ffg c_3 list_4) (fun u=>(sO 27 [(1,.hs 2 0 [] 1 0 (u.map str).length)] [none,some ⟨0,1,u.map str⟩] 3)) fun x4=>(sO 27 [(1,.hs 2 0 [] 1 0 (x4.2.map str).length),(16,.isl false (c_3.Parts.map ac)),(17,I (len c_3.Parts)),(18,I x4.1)] [none,some ⟨0,1,x4.2.map str⟩] 3):=dM (Bv slf_Ffg c_3 list_4) fun {Q K} hK self ih x4 y h hr hn=>by
 unfold jh at h
 refine cq 5 [19] [B (decide (x4.1<(len c_3.Parts)))] 19 ?_
 refine sq h (fun h=>?_) fun h=>?_
 ·refine aq 1 ?_
  refine aq 4 ?_
  obtain⟨e5,he5,h⟩:=bS h
  refine oq 35 (.iptr (.agg [I e5.Op,str e5.Name,I e5.Day,.isl false (e5.Parts.map ac)]) 0) rfl (an rfl rfl rfl (aM rfl rfl (ce e5) rfl he5)) ?_
  refine ck 2 [6,21] [] [51] [] [.hp 51 0 [] 4 0 0,.agg [I e5.Op,str e5.Name,I e5.Day,.isl false (e5.Parts.map ac)]] [some ⟨0,4,[.agg [I (0),str ([]),I (0),.isl true []]]⟩] 67 (by kernel_rfl) ?_
  refine d9 51 [.agg [I (0),str ([]),I (0),.usl 4 (([]).map ap)]] rfl rfl (au (fg (au (.refl _) (au (.refl _) (au (.refl _) (au (.nil _) dz))))) dz) ?_
  refine ck 5 [22,23] [] [51] [] [.agg [I e5.Op,str e5.Name,I e5.Day,.isl false (e5.Parts.map ac)],.hs 2 0 [] 1 0 (x4.2.map str).length] [some ⟨2,4,[.agg [I e5.Op,str e5.Name,I e5.Day,.isl false (e5.Parts.map ac)]]⟩] 115 (by kernel_rfl) ?_
  obtain⟨r6,hr6,h⟩:=bS h
  refine oq 131 (.hs 115 0 [] 1 0 (r6.map str).length) rfl (co rfl rfl (cM rfl rfl rfl (ca (cT rfl) (sI (ph rfl (kr (path:=[]) rfl rfl bd rfl)) dD)) (Nb slf_Ffg hr6) (.inr rfl) (ry rfl rfl rfl li ec) rfl rfl rfl)) ?_
  refine cq 7 [1,18] [.hs 115 0 [] 1 0 (r6.map str).length,I (ar (x4.1+1))] 179 ?_
  refine cE ?_
  exact rg [1,16,17,18] [180,115] (ih _ _ h hr hn :)
 ·refine aq 1 ?_
  exact rg [1] [20,2] (hn _ (Option.some.inj h).symm :) (hk:=hK)
theorem Tu (slf_Ffg:(Condition×(List ah))→Option (List ah))(c_3:Condition)(list_4:List ah)(r:(List ah))(h:vb slf_Ffg c_3 list_4=some r):bc (FY slf_Ffg) Tryz.f186 [false,true] 1 (zm (c_3,list_4)) (AU r):=by
 show Run _ _ (Ck slf_Ffg (c_3,list_4) r) [.code K7] _
 refine rI 27 [(0,.agg [I c_3.Op,str c_3.Name,I c_3.Day,.isl false (c_3.Parts.map ac)]),(1,.hs 1 0 [] 1 0 (list_4.map str).length)] [(1,some ⟨0,1,list_4.map str⟩)] 2 ?_
 unfold vb at h
 refine ck 12 [2,9] [] [2] [] [.hp 2 0 [] 4 0 0,B (c_3.Op==2)] [some ⟨0,4,[.agg [I c_3.Op,str c_3.Name,I c_3.Day,.isl false (c_3.Parts.map ac)]]⟩] 82 (by kernel_rfl) ?_
 obtain⟨y3,hy3,hy31,hy32⟩:=bJ h
 have j3:∀u3,y3=.inr u3→Run (FY slf_Ffg) 1 (Ck slf_Ffg (c_3,list_4) r) (.code (cR (cR K7))::[]) (sO 27 [(1,.hs 2 0 [] 1 0 (u3.map str).length),(2,.hp 3 0 [] 4 0 0)] [none,some ⟨0,1,u3.map str⟩,some ⟨0,4,[.agg [I c_3.Op,str c_3.Name,I c_3.Day,.isl false (c_3.Parts.map ac)]]⟩] 4):=by
  intro u3 hu
  replace h:=hy32 u3 hu
  refine cq 5 [16] [.isl false (c_3.Parts.map ac)] 36 ?_
  refine oq 52 (I (len c_3.Parts)) rfl (aW rfl rfl rfl (bb rfl)) ?_
  refine cq 3 [18] [I (0)] 68 ?_
  obtain⟨y7,hy7,hy71,hy72⟩:=bJ h
  refine bD rfl ?_
  refine rg [1,16,17,18] [69,2] (Kz slf_Ffg c_3 list_4 rfl (0,u3) _ hy7 (fun r' e st hq=>by rw[hy71 r' e] at hq;exact hq) fun u7 hu=>?_)
  replace h:=hy72 u7 hu
  refine cq 5 [4] [.hs 2 0 [] 1 0 (u7.map str).length] 35 ?_
  obtain rfl:=Option.some.inj h
  exact ai rfl ⟨_,fin (vs:=[.hs 2 0 [] 1 0 (u7.map str).length]) rfl (fF (fk rfl (cN rfl rfl)) et) rfl (eZ (rq rfl (nT rfl) fM)),sE fC⟩
 have r3:∀r',y3=.inl r'→∀st,Ck slf_Ffg (c_3,list_4) r' st→(Ck slf_Ffg (c_3,list_4) r) st:=fun r' e st hq=>by rw[hy31 r' e] at hq;exact hq
 replace h:=hy3
 refine sq h (fun h=>?_) fun h=>?_
 ·refine cq 4 [10,12] [.hs 1 0 [] 1 0 (list_4.map str).length,str c_3.Name] 130 ?_
  refine oq 146 (.hs 130 0 [] 1 0 1) rfl (f8 rfl (sG (f:=I) (xs:=[]) (z:=str ([])) (es:=[str c_3.Name]) (ws:=[str c_3.Name]) rfl rfl rfl (by decide) rfl (eo rfl) rfl)) ?_
  obtain⟨a8,ha8,h⟩:=bS h
  refine oq 162 (.hs 146 0 [] 1 0 (a8.map str).length) rfl (oQ rfl rfl rfl rfl rfl (uH (path:=[]) (f:=str) (xs:=list_4) (ys:=[c_3.Name]) rfl rfl (DP rfl rfl rfl) rfl rfl rfl bd rfl (by decide) js ha8 rfl xd)) ?_
  refine cq 2 [1] [.hs 146 0 [] 1 0 (a8.map str).length] 178 ?_
  exact rg [1,2] [179,146,2] (j3 _ (Option.some.inj h).symm :)
 ·refine aq 1 ?_
  exact rg [1,2] [83,1,2] (j3 _ (Option.some.inj h).symm :)
theorem P9 {G:Go.Ln.Ground}:aH Tryz.prog G 186 DK:=jy fun slf_Ffg g_Ffg=>gT 2 1 (aD g_Ffg bf) (Checked.mixed Tryz.checked) Tryz.func186 (fun a r h=>Tu slf_Ffg a.1 a.2 r h)
def Gn:Shelf.Ren:=⟨fun | 190=>219 | 125=>211 | 258=>243 | 128=>239 | 129=>240 | 302=>255 | 303=>256 | 304=>257 | 305=>258 | 306=>259 | 307=>260 | 308=>261 | 309=>262 | 310=>263 | 333=>273 | 329=>251 | 330=>252 | 334=>274 | 335=>275 | 336=>242 | 344=>285 | n=>n,fun | 31=>22 | 9=>9 | 3=>3 | 46=>205 | 0=>0 | 51=>225 | 53=>227 | 4=>4 | 183=>219 | 182=>218 | 131=>58 | 5=>5 | 218=>232 | 222=>236 | 228=>252 | 229=>253 | n=>n,fun | n=>n⟩
theorem R5:Go.Proofs.Lays.n190 Tryz.prog Gn where
 mixed:=by kernel_rfl
 f125:=Tryz.func211.trans (congrArg some (by kernel_rfl))
 f128:=Tryz.func239.trans (congrArg some (by kernel_rfl))
 f129:=Tryz.func240.trans (congrArg some (by kernel_rfl))
 f190:=Tryz.func219.trans (congrArg some (by kernel_rfl))
 f258:=Tryz.func243.trans (congrArg some (by kernel_rfl))
 f302:=Tryz.func255.trans (congrArg some (by kernel_rfl))
 f303:=Tryz.func256.trans (congrArg some (by kernel_rfl))
 f304:=Tryz.func257.trans (congrArg some (by kernel_rfl))
 f305:=Tryz.func258.trans (congrArg some (by kernel_rfl))
 f306:=Tryz.func259.trans (congrArg some (by kernel_rfl))
 f307:=Tryz.func260.trans (congrArg some (by kernel_rfl))
 f308:=Tryz.func261.trans (congrArg some (by kernel_rfl))
 f309:=Tryz.func262.trans (congrArg some (by kernel_rfl))
 f310:=Tryz.func263.trans (congrArg some (by kernel_rfl))
 f329:=Tryz.func251.trans (congrArg some (by kernel_rfl))
 f330:=Tryz.func252.trans (congrArg some (by kernel_rfl))
 f333:=Tryz.func273.trans (congrArg some (by kernel_rfl))
 f334:=Tryz.func274.trans (congrArg some (by kernel_rfl))
 f335:=Tryz.func275.trans (congrArg some (by kernel_rfl))
 f336:=Tryz.func242.trans (congrArg some (by kernel_rfl))
 f344:=Tryz.func285.trans (congrArg some (by kernel_rfl))
 t0:=Tryz.underlying0
 a0:=Tryz.isAgg0
 z0:=Tryz.sizeOf0
 v0:=Tryz.zeroValue0
 t3:=Tryz.underlying3
 a3:=Tryz.isAgg3
 z3:=Tryz.sizeOf3
 v3:=Tryz.zeroValue3
 t4:=Tryz.underlying4
 a4:=Tryz.isAgg4
 z4:=Tryz.sizeOf4
 v4:=Tryz.zeroValue4
 t5:=Tryz.underlying5
 a5:=Tryz.isAgg5
 z5:=Tryz.sizeOf5
 v5:=Tryz.zeroValue5
 t9:=Tryz.underlying9
 a9:=Tryz.isAgg9
 z9:=Tryz.sizeOf9
 v9:=Tryz.zeroValue9
 t31:=Tryz.underlying22
 a31:=Tryz.isAgg22
 z31:=Tryz.sizeOf22
 v31:=Tryz.zeroValue22
 t46:=Tryz.underlying205
 a46:=Tryz.isAgg205
 z46:=Tryz.sizeOf205
 v46:=Tryz.zeroValue205
 t51:=Tryz.underlying225
 a51:=Tryz.isAgg225
 z51:=Tryz.sizeOf225
 v51:=Tryz.zeroValue225
 t53:=Tryz.underlying227
 a53:=Tryz.isAgg227
 z53:=Tryz.sizeOf227
 v53:=Tryz.zeroValue227
 t131:=Tryz.underlying58
 a131:=Tryz.isAgg58
 z131:=Tryz.sizeOf58
 v131:=Tryz.zeroValue58
 t182:=Tryz.underlying218
 a182:=Tryz.isAgg218
 z182:=Tryz.sizeOf218
 v182:=Tryz.zeroValue218
 t183:=Tryz.underlying219
 a183:=Tryz.isAgg219
 z183:=Tryz.sizeOf219
 v183:=Tryz.zeroValue219
 t218:=Tryz.underlying232
 a218:=Tryz.isAgg232
 z218:=Tryz.sizeOf232
 v218:=Tryz.zeroValue232
 t222:=Tryz.underlying236
 a222:=Tryz.isAgg236
 z222:=Tryz.sizeOf236
 v222:=Tryz.zeroValue236
 t228:=Tryz.underlying252
 a228:=Tryz.isAgg252
 z228:=Tryz.sizeOf252
 v228:=Tryz.zeroValue252
 t229:=Tryz.underlying253
 a229:=Tryz.isAgg253
 z229:=Tryz.sizeOf253
 v229:=Tryz.zeroValue253
noncomputable def rO:Ent:=aP [true] (oA (CV 1 str)) (fun r=>(.tup [],[.usl 1 (r.map str)])) qy
theorem SK {l:List ah}{r}(h:qy l=some r):rO.F [.usl 1 (l.map str)]=some (.tup [],[.usl 1 (r.map str)]):=aA (ea:=oA (CV 1 str)) (aB (oc bm)) h
theorem Jt {G:Go.Ln.Ground}:aH Tryz.prog G 219 rO:=LN R5
def BF:(List ah)→List V:=oA (CV 1 str)
def zy (r:(List ah)):V×List V:=(.usl 1 (r.map str),[.dead])
noncomputable def yN:Ent:=aP [true] BF zy fun x=>xC x
theorem Ww {s_2:List ah}{r}(h:xC s_2=some r):yN.F (BF s_2)=some (zy r):=aA (aB (oc bm)) h
noncomputable def GE:Code:=ay Tryz.f220
noncomputable abbrev DY:Code:=cL (cL (cR (cL (cR (cL (cR (cL (cL (cR (cL (cL (cR (cL (cR (cR GE)))))))))))))))
noncomputable def uw:Env:=bC Tryz.prog []
def Bt (x:(List ah))(r:(List ah)):St→Prop:=QF uw Tryz.f220 [true] (BF x) (zy r)
theorem IX (s_2:List ah)(x2:Int):b9 uw 1 (Bt s_2) DY 2 (iL s_2 x2) (fun u=>(sO 61 [(0,.hs 2 0 [] 1 0 (u.2.map str).length),(3,I u.1)] [none,some ⟨0,1,u.2.map str⟩] 3)) fun x6=>(sO 61 [(0,.hs 2 0 [] 1 0 (x6.2.2.map str).length),(3,I x6.1),(4,.hs 2 0 [] 1 (0+Int.toNat x2) (Int.toNat (len s_2) - Int.toNat x2)),(5,I x6.2.1)] [none,some ⟨0,1,x6.2.2.map str⟩] 3):=dM (vJ s_2 x2) fun {Q K} hK self ih x6 y h hr hn=>by
 unfold ja at h
 refine cq 8 [32] [B (decide (x6.2.1<(((Int.toNat (len s_2) - Int.toNat x2):Nat):Int)))] 67 ?_
 refine sq h (fun h=>?_) fun h=>?_
 ·refine aq 1 ?_
  refine aq 3 ?_
  refine d7 [0,0,3,7,0,0,32,112,240,511] rfl (by decide +kernel) ?_
  refine dk 2 [36,35] [I x6.2.1,.hs 2 0 [] 1 (0+Int.toNat x2) (Int.toNat (len s_2) - Int.toNat x2)] ?_
  obtain⟨e7,he7,h⟩:=bS h
  refine dq [2] [] (.hp 2 0 [] 1 ((0+Int.toNat x2)+Int.toNat x6.2.1) 0) rfl (an rfl rfl rfl (LZ (xs:=x6.2.2) rfl rfl he7)) ?_
  refine dq [2] [] (str e7) rfl (aO rfl (pi (path:=[]) rfl rfl rfl bd (GB (f:=str) (xs:=x6.2.2) he7) rfl rfl rfl)) ?_
  refine dk 3 [41,40,39] [I (ar (x6.2.1 - 1)),I x6.2.1,.hs 2 0 [] 1 (0+Int.toNat x2) (Int.toNat (len s_2) - Int.toNat x2)] ?_
  obtain⟨e8,he8,h⟩:=bS h
  refine dq [2] [] (.hp 2 0 [] 1 ((0+Int.toNat x2)+Int.toNat (ar (x6.2.1 - 1))) 0) rfl (an rfl rfl rfl (LZ (xs:=x6.2.2) rfl rfl he8)) ?_
  refine dq [2] [] (str e8) rfl (aO rfl (pi (path:=[]) rfl rfl rfl bd (GB (f:=str) (xs:=x6.2.2) he8) rfl rfl rfl)) ?_
  refine dk 1 [44] [B (!(e7==e8))] ?_
  refine de 227 rfl rfl ?_
  obtain⟨y9,hy9,hy91,hy92⟩:=bL h
  have j9:∀u9,y9=.inr u9→Run uw 1 Q (.blk 3::.code (cR (cR DY))::.lp DY::.blk 2::K) (sO 61 [(0,.hs 2 0 [] 1 0 (u9.2.map str).length),(3,I u9.1),(4,.hs 2 0 [] 1 (0+Int.toNat x2) (Int.toNat (len s_2) - Int.toNat x2)),(5,I x6.2.1)] [none,some ⟨0,1,u9.2.map str⟩] 3):=by
   intro u9 hu
   replace h:=hy92 u9 hu
   refine cq 6 [5] [I (ar (x6.2.1+1))] 51 ?_
   refine cE ?_
   exact rg [0,3,4,5] [52,2] (ih _ _ h hr hn :)
  have r9:∀r',y9=.inl r'→∀st,Bt s_2 r' st→Q st:=fun r' e st hq=>hr r' (hy91 r' e) st hq
  replace h:=hy9
  refine sq h (fun h=>?_) fun h=>?_
  ·refine cq 6 [45,46,47,48] [.hs 2 0 [] 1 0 (x6.2.2.map str).length,I x6.1,.hs 2 0 [] 1 (0+Int.toNat x2) (Int.toNat (len s_2) - Int.toNat x2),I x6.2.1] 291 ?_
   obtain⟨e10,he10,h⟩:=bS h
   refine oq 307 (.hp 2 0 [] 1 ((0+Int.toNat x2)+Int.toNat x6.2.1) 0) rfl (an rfl rfl rfl (LZ (xs:=x6.2.2) rfl rfl he10)) ?_
   refine oq 323 (str e10) rfl (aO rfl (pi (path:=[]) rfl rfl rfl bd (GB (f:=str) (xs:=x6.2.2) he10) rfl rfl rfl)) ?_
   obtain⟨e11,he11,h⟩:=bS h
   refine oq 339 (.hp 2 0 [] 1 (0+Int.toNat x6.1) 0) rfl (an rfl rfl rfl (gV (f:=str) (xs:=x6.2.2) rfl rfl rfl he11)) ?_
   refine o0 355 rfl rfl (gf rfl rfl (eP (path:=[]) (pl:=true) (e':=str e10) (es2':=(ey x6.2.2 x6.1 e10).map str) rfl (eH rfl) rfl rfl rfl bd (fP (f:=str) (xs:=x6.2.2) he11) rfl rfl rfl (lf (f:=str) (xs:=x6.2.2) (y:=e10)) dU 0 rfl)) ?_
   try rw[←je (f:=str) (xs:=x6.2.2) (i:=x6.1) (z:=e10)]
   refine cq 6 [3] [I (ar (x6.1+1))] 403 ?_
   exact rg [0,3,4,5] [404,2] (j9 _ (Option.some.inj h).symm :)
  ·refine aq 1 ?_
   exact rg [0,3,4,5] [228,2] (j9 _ (Option.some.inj h).symm :)
 ·refine aq 1 ?_
  exact rg [0,3] [68,2] (hn _ (Option.some.inj h).symm :) (hk:=hK)
theorem JA (s_2:List ah):b9 uw 1 (Bt s_2) (cL (cL (cR (cL (cR (cR GE)))))) 0 (oe s_2) (fun u=>(sO 61 [(0,.hs 2 0 [] 1 0 (u.map str).length)] [none,some ⟨0,1,u.map str⟩] 3)) fun x2=>(sO 61 [(0,.hs 2 0 [] 1 0 (s_2.map str).length),(3,I x2)] [none,some ⟨0,1,s_2.map str⟩] 3):=dM (vY s_2) fun {Q K} hK self ih x2 y h hr hn=>by
 unfold jt at h
 refine cq 5 [10,11] [I x2,.hs 2 0 [] 1 0 (s_2.map str).length] 35 ?_
 refine oq 51 (I (len s_2)) rfl (aW rfl rfl rfl (vm (f:=str) (xs:=s_2) rfl rfl)) ?_
 refine cq 2 [13] [B (decide (x2<(len s_2)))] 67 ?_
 refine sq h (fun h=>?_) fun h=>?_
 ·refine aq 1 ?_
  refine aq 3 ?_
  refine d7 [0,0,3,7,0,0,32,112,240,511] rfl (by decide +kernel) ?_
  refine dk 2 [17,16] [I x2,.hs 2 0 [] 1 0 (s_2.map str).length] ?_
  obtain⟨e3,he3,h⟩:=bS h
  refine dq [2] [] (.hp 2 0 [] 1 (0+Int.toNat x2) 0) rfl (an rfl rfl rfl (gV (f:=str) (xs:=s_2) rfl rfl rfl he3)) ?_
  refine dq [2] [] (str e3) rfl (aO rfl (pi (path:=[]) rfl rfl rfl bd (fP (f:=str) (xs:=s_2) he3) rfl rfl rfl)) ?_
  refine dk 3 [22,21,20] [I (ar (x2 - 1)),I x2,.hs 2 0 [] 1 0 (s_2.map str).length] ?_
  obtain⟨e4,he4,h⟩:=bS h
  refine dq [2] [] (.hp 2 0 [] 1 (0+Int.toNat (ar (x2 - 1))) 0) rfl (an rfl rfl rfl (gV (f:=str) (xs:=s_2) rfl rfl rfl he4)) ?_
  refine dq [2] [] (str e4) rfl (aO rfl (pi (path:=[]) rfl rfl rfl bd (fP (f:=str) (xs:=s_2) he4) rfl rfl rfl)) ?_
  refine dk 1 [25] [B (e3==e4)] ?_
  refine de 227 rfl rfl ?_
  refine sq h (fun h=>?_) fun h=>?_
  ·refine cq 4 [26,27] [.hs 2 0 [] 1 0 (s_2.map str).length,I x2] 259 ?_
   obtain⟨s5,hs5,h⟩:=bS h
   refine oq 275 (.hs 2 0 [] 1 (0+Int.toNat x2) (Int.toNat (len s_2) - Int.toNat x2)) rfl (gi rfl rfl rfl rfl (qI (f:=str) (xs:=s_2) rfl rfl rfl rfl (Qi rfl) hs5)) ?_
   refine cq 8 [4,5] [.hs 2 0 [] 1 (0+Int.toNat x2) (Int.toNat (len s_2) - Int.toNat x2),I (1)] 307 ?_
   obtain⟨y15,hy15,hy151,hy152⟩:=bL h
   refine bD rfl ?_
   refine rg [0,3,4,5] [308,2] (IX s_2 x2 rfl (x2,1,s_2) _ hy15 (fun r' e st hq=>hr r' (hy151 r' e) st hq) fun u15 hu=>?_)
   replace h:=hy152 u15 hu
   refine cq 4 [54,55] [.hs 2 0 [] 1 0 (u15.2.map str).length,I u15.1] 35 ?_
   obtain⟨s16,hs16,h⟩:=bS h
   refine oq 51 (.hs 2 0 [] 1 (0+Int.toNat u15.1) (Int.toNat (len u15.2) - Int.toNat u15.1)) rfl (gi rfl rfl rfl rfl (qI (f:=str) (xs:=u15.2) rfl rfl rfl rfl (Qi rfl) hs16)) ?_
   obtain⟨k17,hk17,h⟩:=bS h
   refine o0 67 rfl rfl (TY rfl rfl (XS (f:=str) (xs:=u15.2) (z0:=[]) rfl rfl rfl rfl (by decide) kE hk17)) ?_
   try rw[show (u15.2.map str).length=(k17.map str).length from UC hk17]
   refine cq 5 [57,58] [.hs 2 0 [] 1 0 (k17.map str).length,I u15.1] 99 ?_
   obtain⟨s18,hs18,h⟩:=bS h
   refine oq 115 (.hs 2 0 [] 1 (0+Int.toNat (0)) (Int.toNat u15.1 - Int.toNat (0))) rfl (gi rfl rfl rfl rfl (qI (f:=str) (xs:=k17) rfl rfl rfl rfl rfl hs18)) ?_
   refine cq 2 [2] [.hs 2 0 [] 1 (0+Int.toNat (0)) (Int.toNat u15.1 - Int.toNat (0))] 131 ?_
   obtain⟨p19,hp19,h⟩:=bS h
   exact ai rfl (hr _ (Option.some.inj h).symm _ ⟨_,fin (vs:=[.hs 2 0 [] 1 (0+Int.toNat (0)) (Int.toNat u15.1 - Int.toNat (0))]) rfl (fF (fk rfl (PZ (path:=[]) (f:=str) (xs:=k17) rfl rfl bd hp19 rfl xd)) et) rfl (rq rfl (nT rfl) fM),sE fC⟩)
  ·refine aq 1 ?_
   refine cq 6 [3] [I (ar (x2+1))] 275 ?_
   refine cE ?_
   exact rg [0,3] [276,2] (ih _ _ h hr hn :)
 ·refine aq 1 ?_
  exact rg [0] [68,2] (hn _ (Option.some.inj h).symm :) (hk:=hK)
theorem QQ (s_2:List ah)(r:(List ah))(h:xC s_2=some r):bc uw Tryz.f220 [true] 1 (BF s_2) (zy r):=by
 show Run _ _ (Bt s_2 r) [.code GE] _
 refine rI 61 [(0,.hs 1 0 [] 1 0 (s_2.map str).length)] [(1,some ⟨0,1,s_2.map str⟩)] 2 ?_
 unfold xC at h
 refine cq 8 [6] [.hs 1 0 [] 1 0 (s_2.map str).length] 34 ?_
 refine oq 50 (I (len s_2)) rfl (aW rfl rfl rfl (vm (f:=str) (xs:=s_2) rfl rfl)) ?_
 refine cq 2 [8] [B (decide ((len s_2)<2))] 66 ?_
 refine sq h (fun h=>?_) fun h=>?_
 ·refine cq 5 [2] [.hs 1 0 [] 1 0 (s_2.map str).length] 98 ?_
  obtain rfl:=Option.some.inj h
  exact ai rfl ⟨_,fin (vs:=[.hs 1 0 [] 1 0 (s_2.map str).length]) rfl (fF (fk rfl (cN rfl rfl)) et) rfl (rq rfl (nT rfl) fM),sE fC⟩
 ·refine aq 1 ?_
  refine cq 6 [3] [I (1)] 82 ?_
  obtain⟨y20,hy20,hy201,hy202⟩:=bJ h
  refine bD rfl ?_
  refine rg [0,3] [83,1] (JA s_2 rfl 1 _ hy20 (fun r' e st hq=>by rw[hy201 r' e] at hq;exact hq) fun u20 hu=>?_)
  replace h:=hy202 u20 hu
  refine cq 5 [2] [.hs 2 0 [] 1 0 (u20.map str).length] 35 ?_
  obtain rfl:=Option.some.inj h
  exact ai rfl ⟨_,fin (vs:=[.hs 2 0 [] 1 0 (u20.map str).length]) rfl (fF (fk rfl (cN rfl rfl)) et) rfl (rq rfl (nT rfl) fM),sE fC⟩
theorem N4 {G:Go.Ln.Ground}:aH Tryz.prog G 220 yN:=gT 1 1 bf (Checked.mixed Tryz.checked) Tryz.func220 (fun a r h=>QQ a r h)
def F0:(List ah)→List V:=oA (CV 1 str)
def Gk (r:(List ah)):V×List V:=(.usl 1 (r.map str),[.dead])
noncomputable def Dx:Ent:=aP [true] F0 Gk fun x=>Hw x
theorem Xm {list_5:List ah}{r}(h:Hw list_5=some r):Dx.F (F0 list_5)=some (Gk r):=aA (aB (oc bm)) h
noncomputable def W7:Code:=ay Tryz.f187
noncomputable def SO:Env:=bC Tryz.prog [(219,rO),(220,yN)]
def Xp (x:(List ah))(r:(List ah)):St→Prop:=QF SO Tryz.f187 [true] (F0 x) (Gk r)
theorem TE (list_5:List ah)(r:(List ah))(h:Hw list_5=some r):bc SO Tryz.f187 [true] 1 (F0 list_5) (Gk r):=by
 show Run _ _ (Xp list_5 r) [.code W7] _
 refine rI 7 [(0,.hs 1 0 [] 1 0 (list_5.map str).length)] [(1,some ⟨0,1,list_5.map str⟩)] 2 ?_
 unfold Hw at h
 refine cq 7 [3] [.hs 1 0 [] 1 0 (list_5.map str).length] 34 ?_
 obtain⟨r2,hr2,h⟩:=bS h
 obtain⟨g3,h⟩:=gG h
 refine oq 50 (.tup []) rfl (co rfl rfl (cM rfl rfl rfl (sI (ph rfl (kr (path:=[]) rfl rfl bd rfl)) dD) (SK hr2) (.inr rfl) (ry rfl rfl rfl rfl ec) rfl rfl rfl)) ?_
 try rw[Uq (f:=str) (xs:=list_5) (ys:=r2) g3]
 refine cq 4 [5] [.hs 1 0 [] 1 0 (r2.map str).length] 66 ?_
 obtain⟨r4,hr4,h⟩:=bS h
 refine oq 82 (.hs 66 0 [] 1 0 (r4.map str).length) rfl (co rfl rfl (cM rfl rfl rfl (sI (ph rfl (kr (path:=[]) rfl rfl bd rfl)) dD) (Ww hr4) (.inr rfl) (ry rfl rfl rfl li ec) rfl rfl rfl)) ?_
 refine cq 2 [2] [.hs 66 0 [] 1 0 (r4.map str).length] 98 ?_
 obtain rfl:=Option.some.inj h
 exact ai rfl ⟨_,fin (vs:=[.hs 66 0 [] 1 0 (r4.map str).length]) rfl (fF (fk rfl (cN rfl rfl)) et) rfl (rq rfl (nT rfl) fM),sE fC⟩
theorem SB {G:Go.Ln.Ground}:aH Tryz.prog G 187 Dx:=gT 1 1 (aD Jt (aD N4 bf)) (Checked.mixed Tryz.checked) Tryz.func187 (fun a r h=>TE a r h)
def Gf:Contract→List V:=oA aG
def Fx (r:(List ah)):V×List V:=(.usl 1 (r.map str),[])
noncomputable def vp:Ent:=aP [false] Gf Fx fun x=>vS x
theorem Tj {c_1:Contract}{r}(h:vS c_1=some r):vp.F (Gf c_1)=some (Fx r):=aA (aB aQ) h
noncomputable def Tb:Code:=ay Tryz.f125
noncomputable def LE:Env:=bC Tryz.prog [(186,DK),(187,Dx)]
def SR (x:Contract)(r:(List ah)):St→Prop:=QF LE Tryz.f125 [false] (Gf x) (Fx r)
theorem KW (c_1:Contract):b9 LE 0 (SR c_1) (cL (cL (cR (cL (cR (cR Tb)))))) 0 (ng c_1) (fun u=>(sT 25 [(3,.hs 1 0 [] 1 0 (u.map str).length)] [⟨0,1,u.map str⟩] 2)) fun x2=>(sT 25 [(3,.hs 1 0 [] 1 0 (x2.2.map str).length),(8,.isl false (c_1.Clauses.map aa)),(9,I (len c_1.Clauses)),(10,I x2.1)] [⟨0,1,x2.2.map str⟩] 2):=dM (BZ c_1) fun {Q K} hK self ih x2 y h hr hn=>by
 unfold kG at h
 refine cq 5 [11] [B (decide (x2.1<(len c_1.Clauses)))] 18 ?_
 refine sq h (fun h=>?_) fun h=>?_
 ·refine aq 1 ?_
  refine aq 4 ?_
  obtain⟨e3,he3,h⟩:=bS h
  refine oq 34 (.iptr (.agg [str e3.Id,I e3.Kind,I e3.Party,str e3.Action,I e3.Other,I e3.Amount,I e3.When.Op,str e3.When.Name,I e3.When.Day,.isl false (e3.When.Parts.map ac),I e3.Within,str e3.Repair]) 0) rfl (an rfl rfl rfl (aM rfl rfl rfl rfl he3)) ?_
  refine ck 2 [5,13] [] [50] [] [.hp 50 0 [] 12 0 0,.agg [str e3.Id,I e3.Kind,I e3.Party,str e3.Action,I e3.Other,I e3.Amount,I e3.When.Op,str e3.When.Name,I e3.When.Day,.isl false (e3.When.Parts.map ac),I e3.Within,str e3.Repair]] [some ⟨0,12,[.agg [str ([]),I (0),I (0),str ([]),I (0),I (0),I (0),str ([]),I (0),.isl true [],I (0),str ([])]]⟩] 66 (by kernel_rfl) ?_
  refine d9 50 [.agg [str ([]),I (0),I (0),str ([]),I (0),I (0),I (0),str ([]),I (0),.usl 4 (([]).map ap),I (0),str ([])]] rfl rfl (au (fg (au (.refl _) (au (.refl _) (au (.refl _) (au (.refl _) (au (.refl _) (au (.refl _) (au (.refl _) (au (.refl _) (au (.refl _) (au (.nil _) (au (.refl _) (au (.refl _) dz))))))))))))) dz) ?_
  refine ck 2 [] [] [50] [] [] [some ⟨2,12,[.agg [str e3.Id,I e3.Kind,I e3.Party,str e3.Action,I e3.Other,I e3.Amount,I e3.When.Op,str e3.When.Name,I e3.When.Day,.isl false (e3.When.Parts.map ac),I e3.Within,str e3.Repair]]⟩] 82 (by kernel_rfl) ?_
  refine d7 [0,1,0,0,8,24,60,127,255] rfl (by decide +kernel) ?_
  refine dq [50] [] (.hp 50 0 [] 12 0 6) rfl (al rfl rfl rfl) ?_
  refine dq [50] [] (.agg [I e3.When.Op,str e3.When.Name,I e3.When.Day,.isl false (e3.When.Parts.map ac)]) rfl (aO rfl rfl) ?_
  refine dk 1 [16] [.hs 1 0 [] 1 0 (x2.2.map str).length] ?_
  refine dq [50] [] (.hp 50 0 [] 12 0 3) rfl (al rfl rfl rfl) ?_
  refine dq [50] [] (str e3.Action) rfl (aO rfl rfl) ?_
  refine dq [] [] (.hs 162 0 [] 1 0 1) rfl (f8 rfl (sG (f:=I) (xs:=[]) (z:=str ([])) (es:=[str e3.Action]) (ws:=[str e3.Action]) rfl rfl rfl (by decide) rfl (eo rfl) rfl)) ?_
  obtain⟨a4,ha4,h⟩:=bS h
  refine dq [1,162] [1] (.hs 178 0 [] 1 0 (a4.map str).length) rfl (oQ rfl rfl rfl rfl rfl (uH (path:=[]) (f:=str) (xs:=x2.2) (ys:=[e3.Action]) rfl rfl (DP rfl rfl rfl) rfl rfl rfl bd rfl (by decide) js ha4 rfl xd)) ?_ (F5 rfl (F3 (path:=[]) (f:=str) (xs:=[e3.Action]) rfl rfl bd kE rfl))
  obtain⟨r5,hr5,h⟩:=bS h
  refine dq [178] [178] (.hs 194 0 [] 1 0 (r5.map str).length) rfl (co rfl rfl (cM rfl rfl rfl (ca (cT rfl) (sI (ph rfl (kr (path:=[]) rfl rfl bd rfl)) dD)) (SP hr5) (.inr rfl) (ry rfl rfl rfl li ec) rfl rfl rfl)) ?_ (dj rfl rfl rfl rfl (ca (cT rfl) (sI (ph rfl (kr (path:=[]) rfl rfl bd rfl)) dD)) (SP hr5) (.inr rfl) rfl)
  refine dk 1 [3] [.hs 194 0 [] 1 0 (r5.map str).length] ?_
  refine de 226 rfl rfl ?_
  refine cq 5 [10] [I (ar (x2.1+1))] 258 ?_
  refine cE ?_
  exact rf [3,8,9,10] [194] (ih _ _ h hr hn :)
 ·refine aq 1 ?_
  exact rf [3] [1] (hn _ (Option.some.inj h).symm :) (hk:=hK)
theorem TG (c_1:Contract)(r:(List ah))(h:vS c_1=some r):bc LE Tryz.f125 [false] 0 (Gf c_1) (Fx r):=by
 show Run _ _ (SR c_1 r) [.code Tb] _
 refine rI 25 [(0,.agg [.isl false (c_1.Parties.map str),.isl false (c_1.Clauses.map aa)])] [] 1 ?_
 unfold vS at h
 refine ck 7 [1] [] [1] [] [.hp 1 0 [] 2 0 0] [some ⟨0,2,[.agg [.isl false (c_1.Parties.map str),.isl false (c_1.Clauses.map aa)]]⟩] 33 (by kernel_rfl) ?_
 refine oq 49 (.hs 33 0 [] 1 0 0) rfl (f8 rfl (sG (f:=I) (xs:=[]) (z:=str ([])) (es:=[]) (ws:=[]) rfl rfl rfl (by decide) rfl (eo rfl) rfl)) ?_
 refine cq 7 [3,8] [.hs 33 0 [] 1 0 0,.isl false (c_1.Clauses.map aa)] 97 ?_
 refine oq 113 (I (len c_1.Clauses)) rfl (aW rfl rfl rfl (bb rfl)) ?_
 refine cq 3 [10] [I (0)] 129 ?_
 obtain⟨y6,hy6,hy61,hy62⟩:=bJ h
 refine bD rfl ?_
 refine rf [3,8,9,10] [33] (KW c_1 rfl (0,[]) _ hy6 (fun r' e st hq=>by rw[hy61 r' e] at hq;exact hq) fun u6 hu=>?_)
 replace h:=hy62 u6 hu
 refine cq 3 [23] [.hs 1 0 [] 1 0 (u6.map str).length] 18 ?_
 obtain⟨r7,hr7,h⟩:=bS h
 refine oq 34 (.hs 18 0 [] 1 0 (r7.map str).length) rfl (co rfl rfl (cM rfl rfl rfl (sI (ph rfl (kr (path:=[]) rfl rfl bd rfl)) dD) (Xm hr7) (.inr rfl) (ry rfl rfl rfl li ec) rfl rfl rfl)) ?_
 refine cq 2 [2] [.hs 18 0 [] 1 0 (r7.map str).length] 50 ?_
 obtain rfl:=Option.some.inj h
 exact ai rfl ⟨_,fin (vs:=[.hs 18 0 [] 1 0 (r7.map str).length]) rfl (fF (fk rfl (cN rfl rfl)) et) rfl (eZ fM),fC⟩
theorem IE {G:Go.Ln.Ground}:aH Tryz.prog G 125 vp:=gT 1 0 (aD P9 (aD SB bf)) (Checked.mixed Tryz.checked) Tryz.func125 (fun a r h=>TG a r h)
def FN:Contract→List V:=oA aG
def F8 (r:Bool):V×List V:=(B r,[])
noncomputable def DN:Ent:=aP [false] FN F8 fun x=>Gr x
theorem Xu {c_1:Contract}{r}(h:Gr c_1=some r):DN.F (FN c_1)=some (F8 r):=aA (aB aQ) h
noncomputable def FW:Code:=ay Tryz.f65
noncomputable def F9:Env:=bC Tryz.prog [(123,DE),(124,DX),(125,vp),(86,iI)]
def CF (x:Contract)(r:Bool):St→Prop:=QF F9 Tryz.f65 [false] (FN x) (F8 r)
theorem Li (c_1:Contract):b9 F9 0 (CF c_1) (cL (cL (cR (cL (cR (cR FW)))))) 0 (lZ c_1) (fun u=>(sT 30 [(1,.hp 1 0 [] 2 0 0)] [⟨0,2,[.agg [.isl false (c_1.Parties.map str),.isl false (c_1.Clauses.map aa)]]⟩] 2)) fun x4=>(sT 30 [(1,.hp 1 0 [] 2 0 0),(17,I (len c_1.Clauses)),(18,I x4)] [⟨0,2,[.agg [.isl false (c_1.Parties.map str),.isl false (c_1.Clauses.map aa)]]⟩] 2):=dM (Bm c_1) fun {Q K} hK self ih x4 y h hr hn=>by
 unfold kB at h
 refine cq 5 [19] [B (decide (x4<(len c_1.Clauses)))] 18 ?_
 refine sq h (fun h=>?_) fun h=>?_
 ·refine aq 1 ?_
  refine cq 11 [21,22] [.agg [.isl false (c_1.Parties.map str),.isl false (c_1.Clauses.map aa)],I x4] 82 ?_
  obtain⟨r5,hr5,h⟩:=bS h
  refine oq 98 (B r5) rfl (cP (Xh hr5)) ?_
  refine cq 2 [24] [B (!r5)] 114 ?_
  refine sq h (fun h=>?_) fun h=>?_
  ·refine cq 4 [2] [B false] 130 ?_
   exact ai rfl (hr _ (Option.some.inj h).symm _ (qp [B false]))
  ·refine aq 1 ?_
   refine cq 5 [18] [I (ar (x4+1))] 146 ?_
   refine cE ?_
   exact rf [1,17,18] [1] (ih _ _ h hr hn :)
 ·refine aq 1 ?_
  exact rf [1] [1] (hn _ (Option.some.inj h).symm :) (hk:=hK)
theorem TS (c_1:Contract)(r:Bool)(h:Gr c_1=some r):bc F9 Tryz.f65 [false] 0 (FN c_1) (F8 r):=by
 show Run _ _ (CF c_1 r) [.code FW] _
 refine rI 30 [(0,.agg [.isl false (c_1.Parties.map str),.isl false (c_1.Clauses.map aa)])] [] 1 ?_
 unfold Gr at h
 refine ck 10 [1,5] [] [1] [] [.hp 1 0 [] 2 0 0,.isl false (c_1.Parties.map str)] [some ⟨0,2,[.agg [.isl false (c_1.Parties.map str),.isl false (c_1.Clauses.map aa)]]⟩] 65 (by kernel_rfl) ?_
 obtain⟨r2,hr2,h⟩:=bS h
 refine oq 81 (B r2) rfl (cP (X2 hr2)) ?_
 refine cq 2 [8] [B (!r2)] 113 ?_
 obtain⟨y3,hy3,hy31,hy32⟩:=bJ h
 have j3:∀u3,y3=.inr u3→Run F9 0 (CF c_1 r) (.code (cR (cL (cR FW)))::.code (cR (cR FW))::[]) (sT 30 [(1,.hp 1 0 [] 2 0 0),(14,B u3)] [⟨0,2,[.agg [.isl false (c_1.Parties.map str),.isl false (c_1.Clauses.map aa)]]⟩] 2):=by
  intro u3 hu
  replace h:=hy32 u3 hu
  refine sq h (fun h=>?_) fun h=>?_
  ·refine cq 4 [2] [B false] 18 ?_
   obtain rfl:=Option.some.inj h
   exact ai rfl (qp [B false])
  ·refine aq 1 ?_
   refine cq 5 [16] [.isl false (c_1.Clauses.map aa)] 34 ?_
   refine oq 50 (I (len c_1.Clauses)) rfl (aW rfl rfl rfl (bb rfl)) ?_
   refine cq 3 [18] [I (0)] 66 ?_
   obtain⟨y6,hy6,hy61,hy62⟩:=bJ h
   refine bD rfl ?_
   refine rf [1,17,18] [1] (Li c_1 rfl 0 _ hy6 (fun r' e st hq=>by rw[hy61 r' e] at hq;exact hq) fun u6 hu=>?_)
   replace h:=hy62 u6 hu
   refine cq 3 [26] [.agg [.isl false (c_1.Parties.map str),.isl false (c_1.Clauses.map aa)]] 18 ?_
   obtain⟨r7,hr7,h⟩:=bS h
   refine oq 34 (.hs 18 0 [] 1 0 (r7.map str).length) rfl (cP (Tj hr7)) ?_
   refine oq 50 (I (len r7)) rfl (aW rfl rfl rfl (vm (f:=str) (xs:=r7) rfl rfl)) ?_
   refine cq 3 [2] [B (decide ((len r7)≤16))] 82 ?_
   obtain rfl:=Option.some.inj h
   exact ai rfl (qp [B (decide ((len r7)≤16))])
 have r3:∀r',y3=.inl r'→∀st,CF c_1 r' st→(CF c_1 r) st:=fun r' e st hq=>by rw[hy31 r' e] at hq;exact hq
 replace h:=hy3
 refine sp 8 h rfl (fun h=>?_) fun h=>?_
 ·refine cq 7 [14] [B true] 209 ?_
  exact rf [1,14] [1] (j3 _ (Option.some.inj h).symm :)
 ·refine cq 2 [10] [.isl false (c_1.Clauses.map aa)] 145 ?_
  refine oy 161 (I (len c_1.Clauses)) rfl (aW rfl rfl rfl (bb rfl)) ?_
  obtain⟨r8,hr8,h⟩:=bS h
  refine oy 177 (B r8) rfl (cP (iV hr8)) ?_
  refine cq 3 [14] [B (!r8)] 209 ?_
  exact rf [1,14] [1] (j3 _ (Option.some.inj h).symm :)
theorem Q3 {G:Go.Ln.Ground}:aH Tryz.prog G 65 DN:=gT 1 0 (aD RL (aD Q6 (aD IE (aD jD bf)))) (Checked.mixed Tryz.checked) Tryz.func65 (fun a r h=>TS a r h)
def Fp:(List ah)→List V:=oA (ee str)
def Gh (r:Bool):V×List V:=(B r,[])
noncomputable def Dy:Ent:=aP [false] Fp Gh fun x=>HT x
theorem Xy {facts_1:List ah}{r}(h:HT facts_1=some r):Dy.F (Fp facts_1)=some (Gh r):=aA (aB (bw bm)) h
noncomputable def S7:Code:=ay Tryz.f127
noncomputable abbrev qc:Code:=cL (cL (cR (cL (cR S7))))
noncomputable abbrev Ph:Code:=cR (cR (cL (cL (cR (cR qc)))))
noncomputable def Af:Env:=bC Tryz.prog [(159,oa)]
def FC (x:(List ah))(r:Bool):St→Prop:=QF Af Tryz.f127 [false] (Fp x) (Gh r)
theorem LO (facts_1:List ah):b9 Af 0 (FC facts_1) qc 0 (lT facts_1) (fun u=>(sT 32 [(0,.isl false (facts_1.map str))] [] 1)) fun x2=>(sT 32 [(0,.isl false (facts_1.map str)),(5,.isl false (facts_1.map str)),(6,I (len facts_1)),(7,I x2)] [] 1):=dM (BI facts_1) fun {Q K} hK self ih x2 y h hr hn=>by
 unfold kA at h
 refine cq 5 [8] [B (decide (x2<(len facts_1)))] 17 ?_
 refine sq h (fun h=>?_) fun h=>?_
 ·refine aq 1 ?_
  refine cq 5 [9] [I x2] 33 ?_
  obtain⟨e3,he3,h⟩:=bS h
  refine oq 49 (.iptr (str e3) 0) rfl (an rfl rfl rfl (aM rfl rfl rfl rfl he3)) ?_
  refine cq 7 [3,4,12] [I x2,str e3,str e3] 113 ?_
  obtain⟨r4,hr4,h⟩:=bS h
  refine oq 129 (B r4) rfl (cP (zt hr4)) ?_
  refine cq 2 [15] [B (!r4)] 161 ?_
  obtain⟨y5,hy5,hy51,hy52⟩:=bL h
  have j5:∀u5,y5=.inr u5→Run Af 0 Q (.code Ph::.blk 1::.code (cR (cR (cR qc)))::.lp qc::.blk 0::K) (sT 32 [(0,.isl false (facts_1.map str)),(5,.isl false (facts_1.map str)),(6,I (len facts_1)),(7,I x2),(27,B u5)] [] 1):=by
   intro u5 hu
   replace h:=hy52 u5 hu
   refine sq h (fun h=>?_) fun h=>?_
   ·refine cq 4 [2] [B false] 17 ?_
    exact ai rfl (hr _ (Option.some.inj h).symm _ (qp [B false]))
   ·refine aq 1 ?_
    refine cq 5 [7] [I (ar (x2+1))] 33 ?_
    refine cE ?_
    exact rf [0,5,6,7] [] (ih _ _ h hr hn :)
  have r5:∀r',y5=.inl r'→∀st,FC facts_1 r' st→Q st:=fun r' e st hq=>hr r' (hy51 r' e) st hq
  replace h:=hy5
  refine sp 15 h rfl (fun h=>?_) fun h=>?_
  ·refine cq 13 [27] [B true] 353 ?_
   exact rf [0,5,6,7,27] [] (j5 _ (Option.some.inj h).symm :)
  ·refine cq 3 [18] [B (decide (x2>0))] 209 ?_
   obtain⟨y6,hy6,hy61,hy62⟩:=bL h
   have j6:∀u6,y6=.inr u6→Run Af 0 Q (.code Ph::.blk 1::.code (cR (cR (cR qc)))::.lp qc::.blk 0::K) (sT 32 [(0,.isl false (facts_1.map str)),(5,.isl false (facts_1.map str)),(6,I (len facts_1)),(7,I x2),(27,B u6)] [] 1):=by
    intro u6 hu
    replace h:=hy62 u6 hu
    exact rf [0,5,6,7,27] [] (j5 _ (Option.some.inj h).symm :)
   have r6:∀r',y6=.inl r'→∀st,FC facts_1 r' st→Q st:=fun r' e st hq=>r5 r' (hy61 r' e) st hq
   replace h:=hy6
   refine sp 18 h rfl (fun h=>?_) fun h=>?_
   ·refine cq 4 [19,20,22] [str e3,.isl false (facts_1.map str),I (ar (x2 - 1))] 273 ?_
    obtain⟨e7,he7,h⟩:=bS h
    refine oy 289 (.iptr (str e7) 0) rfl (an rfl rfl rfl (aM rfl rfl rfl rfl he7)) ?_
    refine cq 5 [27] [B (Op.bytesLess e3 e7||e3==e7)] 353 ?_
    exact rf [0,5,6,7,27] [] (j6 _ (Option.some.inj h).symm :)
   ·refine cq 10 [27] [B false] 353 ?_
    exact rf [0,5,6,7,27] [] (j6 _ (Option.some.inj h).symm :)
 ·refine aq 1 ?_
  exact rf [0] [] (hn _ (Option.some.inj h).symm :) (hk:=hK)
theorem UJ (facts_1:List ah)(r:Bool)(h:HT facts_1=some r):bc Af Tryz.f127 [false] 0 (Fp facts_1) (Gh r):=by
 show Run _ _ (FC facts_1 r) [.code S7] _
 refine rI 32 [(0,.isl false (facts_1.map str))] [] 1 ?_
 unfold HT at h
 refine cq 8 [5] [.isl false (facts_1.map str)] 33 ?_
 refine oq 49 (I (len facts_1)) rfl (aW rfl rfl rfl (bb rfl)) ?_
 refine cq 3 [7] [I (0)] 65 ?_
 obtain⟨y8,hy8,hy81,hy82⟩:=bJ h
 refine bD rfl ?_
 refine rf [0,5,6,7] [] (LO facts_1 rfl 0 _ hy8 (fun r' e st hq=>by rw[hy81 r' e] at hq;exact hq) fun u8 hu=>?_)
 replace h:=hy82 u8 hu
 refine cq 3 [29] [.isl false (facts_1.map str)] 17 ?_
 refine oq 33 (I (len facts_1)) rfl (aW rfl rfl rfl (bb rfl)) ?_
 refine cq 3 [2] [B (decide ((len facts_1)≤16))] 65 ?_
 obtain rfl:=Option.some.inj h
 exact ai rfl (qp [B (decide ((len facts_1)≤16))])
theorem Rl {G:Go.Ln.Ground}:aH Tryz.prog G 127 Dy:=gT 1 0 (aD rD bf) (Checked.mixed Tryz.checked) Tryz.func127 (fun a r h=>UJ a r h)
def FX:(ah×(List ah))→List V:=cA str (oA (fun x:List ah=>.iptr ((ee str) x) 0))
def FV (r:Bool):V×List V:=(B r,[])
noncomputable def D5:Ent:=aP [false,false] FX FV fun x=>GN x.1 x.2
theorem XD {f_1:ah}{a_2:List ah}{r}(h:GN f_1 a_2=some r):D5.F (FX (f_1,a_2))=some (FV r):=aA (aY bm (aB (ov (bw bm)))) h
noncomputable def X3:Code:=ay Tryz.f129
noncomputable def SU:Env:=bC Tryz.prog [(130,ow)]
def XX (x:ah×(List ah))(r:Bool):St→Prop:=QF SU Tryz.f129 [false,false] (FX x) (FV r)
theorem UM (f_1:ah)(a_2:List ah)(r:Bool)(h:GN f_1 a_2=some r):bc SU Tryz.f129 [false,false] 0 (FX (f_1,a_2)) (FV r):=by
 show Run _ _ (XX (f_1,a_2) r) [.code X3] _
 refine rI 8 [(0,str f_1),(1,.iptr (.isl false (a_2.map str)) 0)] [] 1 ?_
 unfold GN at h
 refine cq 8 [4,5] [.isl false (a_2.map str),str f_1] 49 ?_
 obtain⟨r3,hr3,h⟩:=bS h
 refine oq 65 (B r3) rfl (cP (Ht hr3)) ?_
 refine cq 3 [3] [B (!r3)] 97 ?_
 obtain rfl:=Option.some.inj h
 exact ai rfl (qp [B (!r3)])
theorem Sh {G:Go.Ln.Ground}:aH Tryz.prog G 129 D5:=gT 2 0 (aD tc bf) (Checked.mixed Tryz.checked) Tryz.func129 (fun a r h=>UM a.1 a.2 r h)
def zX:((List ah)×(List ah))→List V:=cA (ee str) (oA (fun x:(List ah)=>(.fn 129 [.iptr ((ee str) x) 0]:V)))
def zB (r:Int):V×List V:=(I r,[])
noncomputable def xu:Ent:=aP [false,false] zX zB fun x=>D9 x.1 x.2
theorem WC {s_1:List ah}{f_2:(List ah)}{r}(h:D9 s_1 f_2=some r):xu.F (zX (s_1,f_2))=some (zB r):=aA (aY (bw bm) (aB (qQ (bw bm)))) h
noncomputable def PJ:Code:=ay Tryz.f188
noncomputable def HF:Env:=bC Tryz.prog [(129,D5)]
def Nh (x:(List ah)×(List ah))(r:Int):St→Prop:=QF HF Tryz.f188 [false,false] (zX x) (zB r)
theorem Jv (s_1:List ah)(f_2:(List ah)):b9 HF 0 (Nh (s_1,f_2)) (cL (cL (cR (cL (cR PJ))))) 0 (qE s_1 f_2) (fun u=>(sT 19 [] [] 1)) fun x3=>(sT 19 [(0,.isl false (s_1.map str)),(1,.fn 129 [.iptr (.isl false (f_2.map str)) 0]),(7,I (len s_1)),(8,I x3)] [] 1):=dM (vM s_1 f_2) fun {Q K} hK self ih x3 y h hr hn=>by
 unfold lx at h
 refine cq 5 [9] [B (decide (x3<(len s_1)))] 17 ?_
 refine sq h (fun h=>?_) fun h=>?_
 ·refine aq 1 ?_
  refine cq 12 [5,11,12,13] [I x3,.fn 129 [.iptr (.isl false (f_2.map str)) 0],.isl false (s_1.map str),I x3] 97 ?_
  obtain⟨e4,he4,h⟩:=bS h
  refine oq 113 (.iptr (str e4) 0) rfl (an rfl rfl rfl (aM rfl rfl rfl rfl he4)) ?_
  refine cq 1 [15] [str e4] 129 ?_
  obtain⟨r5,hr5,h⟩:=bS h
  refine oq 145 (B r5) rfl (cP (XD hr5)) ?_
  refine aq 1 ?_
  refine sq h (fun h=>?_) fun h=>?_
  ·refine cq 5 [4] [I x3] 177 ?_
   exact ai rfl (hr _ (Option.some.inj h).symm _ (qp [I x3]))
  ·refine aq 1 ?_
   refine cq 5 [8] [I (ar (x3+1))] 177 ?_
   refine cE ?_
   exact rf [0,1,7,8] [] (ih _ _ h hr hn :)
 ·refine aq 1 ?_
  exact rf [] [] (hn _ (Option.some.inj h).symm :) (hk:=hK)
theorem Rr (s_1:List ah)(f_2:(List ah))(r:Int)(h:D9 s_1 f_2=some r):bc HF Tryz.f188 [false,false] 0 (zX (s_1,f_2)) (zB r):=by
 show Run _ _ (Nh (s_1,f_2) r) [.code PJ] _
 refine rI 19 [(0,.isl false (s_1.map str)),(1,.fn 129 [.iptr (.isl false (f_2.map str)) 0])] [] 1 ?_
 unfold D9 at h
 refine cq 8 [6] [.isl false (s_1.map str)] 33 ?_
 refine oq 49 (I (len s_1)) rfl (aW rfl rfl rfl (bb rfl)) ?_
 refine cq 3 [8] [I (0)] 65 ?_
 obtain⟨y6,hy6,hy61,hy62⟩:=bJ h
 refine bD rfl ?_
 refine rf [0,1,7,8] [] (Jv s_1 f_2 rfl 0 _ hy6 (fun r' e st hq=>by rw[hy61 r' e] at hq;exact hq) fun u6 hu=>?_)
 replace h:=hy62 u6 hu
 refine cq 4 [4] [I (-1)] 17 ?_
 obtain rfl:=Option.some.inj h
 exact ai rfl (qp [I (-1)])
theorem Mz {G:Go.Ln.Ground}:aH Tryz.prog G 188 xu:=gT 2 0 (aD Sh bf) (Checked.mixed Tryz.checked) Tryz.func188 (fun a r h=>Rr a.1 a.2 r h)
def zn:((List ah)×(List ah))→List V:=cA (ee str) (oA (fun x:(List ah)=>(.fn 129 [.iptr ((ee str) x) 0]:V)))
def Bu (r:Bool):V×List V:=(B r,[])
noncomputable def xk:Ent:=aP [false,false] zn Bu fun x=>D0 x.1 x.2
theorem Wb {s_1:List ah}{f_2:(List ah)}{r}(h:D0 s_1 f_2=some r):xk.F (zn (s_1,f_2))=some (Bu r):=aA (aY (bw bm) (aB (qQ (bw bm)))) h
noncomputable def Vn:Code:=ay Tryz.f128
noncomputable def OG:Env:=bC Tryz.prog [(188,xu)]
def VL (x:(List ah)×(List ah))(r:Bool):St→Prop:=QF OG Tryz.f128 [false,false] (zn x) (Bu r)
theorem SI (s_1:List ah)(f_2:(List ah))(r:Bool)(h:D0 s_1 f_2=some r):bc OG Tryz.f128 [false,false] 0 (zn (s_1,f_2)) (Bu r):=by
 show Run _ _ (VL (s_1,f_2) r) [.code Vn] _
 refine rI 9 [(0,.isl false (s_1.map str)),(1,.fn 129 [.iptr (.isl false (f_2.map str)) 0])] [] 1 ?_
 unfold D0 at h
 refine cq 8 [5,6] [.isl false (s_1.map str),.fn 129 [.iptr (.isl false (f_2.map str)) 0]] 49 ?_
 obtain⟨r3,hr3,h⟩:=bS h
 refine oq 65 (I r3) rfl (co rfl rfl (cM rfl rfl rfl (ca (cT rfl) (ca (HX (dh (gL rfl) kf)) dD)) (WC hr3) (.inr rfl) ec rfl rfl rfl)) ?_
 refine cq 3 [4] [B (decide (r3≥0))] 97 ?_
 obtain rfl:=Option.some.inj h
 exact ai rfl (qp [B (decide (r3≥0))])
theorem PD {G:Go.Ln.Ground}:aH Tryz.prog G 128 xk:=gT 2 0 (aD Mz bf) (Checked.mixed Tryz.checked) Tryz.func128 (fun a r h=>SI a.1 a.2 r h)
def Fm:(List Int)→List V:=oA (ee I)
def FA (r:Int):V×List V:=(I r,[])
noncomputable def DZ:Ent:=aP [false] Fm FA fun x=>Eu x
theorem W9 {list_1:List Int}{r}(h:Eu list_1=some r):DZ.F (Fm list_1)=some (FA r):=aA (aB (bw bO)) h
noncomputable def Tm:Code:=ay Tryz.f131
noncomputable def LD:Env:=bC Tryz.prog []
def Tl (x:(List Int))(r:Int):St→Prop:=QF LD Tryz.f131 [false] (Fm x) (FA r)
theorem Ky (list_1:List Int):b9 LD 0 (Tl list_1) (cL (cL (cR (cL (cR (cR Tm)))))) 0 (IB list_1) (fun u=>(sT 17 [(3,I u)] [] 1)) fun x2=>(sT 17 [(3,I x2.1),(6,.isl false (list_1.map I)),(7,I (len list_1)),(8,I x2.2)] [] 1):=dM (L0 list_1) fun {Q K} hK self ih x2 y h hr hn=>by
 unfold rx at h
 refine cq 5 [9] [B (decide (x2.2<(len list_1)))] 17 ?_
 refine sq h (fun h=>?_) fun h=>?_
 ·refine aq 1 ?_
  refine aq 4 ?_
  obtain⟨e3,he3,h⟩:=bS h
  refine oq 33 (.iptr (I e3) 0) rfl (an rfl rfl rfl (aM rfl rfl rfl rfl he3)) ?_
  refine cq 14 [3,8] [I (ar (x2.1+e3)),I (ar (x2.2+1))] 161 ?_
  refine cE ?_
  exact rf [3,6,7,8] [] (ih _ _ h hr hn :)
 ·refine aq 1 ?_
  exact rf [3] [] (hn _ (Option.some.inj h).symm :) (hk:=hK)
theorem Ug (list_1:List Int)(r:Int)(h:Eu list_1=some r):bc LD Tryz.f131 [false] 0 (Fm list_1) (FA r):=by
 show Run _ _ (Tl list_1 r) [.code Tm] _
 refine rI 17 [(0,.isl false (list_1.map I))] [] 1 ?_
 unfold Eu at h
 refine cq 12 [3,6] [I (0),.isl false (list_1.map I)] 49 ?_
 refine oq 65 (I (len list_1)) rfl (aW rfl rfl rfl (bb rfl)) ?_
 refine cq 3 [8] [I (0)] 81 ?_
 obtain⟨y4,hy4,hy41,hy42⟩:=bJ h
 refine bD rfl ?_
 refine rf [3,6,7,8] [] (Ky list_1 rfl (0,0) _ hy4 (fun r' e st hq=>by rw[hy41 r' e] at hq;exact hq) fun u4 hu=>?_)
 replace h:=hy42 u4 hu
 refine cq 5 [2] [I u4] 33 ?_
 obtain rfl:=Option.some.inj h
 exact ai rfl (qp [I u4])
theorem QN {G:Go.Ln.Ground}:aH Tryz.prog G 131 DZ:=gT 1 0 bf (Checked.mixed Tryz.checked) Tryz.func131 (fun a r h=>Ug a r h)
def Gj:(Clause×Contract×Int)→List V:=cA aa (cA (fun x:Contract=>.iptr (aG x) 0) (oA (fun x:Int=>.iptr (I x) 0)))
def Fq (r:Bool):V×List V:=(B r,[])
noncomputable def Dw:Ent:=aP [false,false,false] Gj Fq fun x=>Io x.1 x.2.1 x.2.2
theorem XV {x_1:Clause}{a_2:Contract}{a_3:Int}{r}(h:Io x_1 a_2 a_3=some r):Dw.F (Gj (x_1,a_2,a_3))=some (Fq r):=aA (aY cp (aY (ov aQ) (aB (ov bO)))) h
noncomputable def Xg:Code:=ay Tryz.f222
noncomputable def S5:Env:=bC Tryz.prog []
def W8 (x:Clause×Contract×Int)(r:Bool):St→Prop:=QF S5 Tryz.f222 [false,false,false] (Gj x) (Fq r)
theorem Ud (x_1:Clause)(a_2:Contract)(a_3:Int)(r:Bool)(h:Io x_1 a_2 a_3=some r):bc S5 Tryz.f222 [false,false,false] 0 (Gj (x_1,a_2,a_3)) (Fq r):=by
 show Run _ _ (W8 (x_1,a_2,a_3) r) [.code Xg] _
 refine rI 14 [(0,.agg [str x_1.Id,I x_1.Kind,I x_1.Party,str x_1.Action,I x_1.Other,I x_1.Amount,I x_1.When.Op,str x_1.When.Name,I x_1.When.Day,.isl false (x_1.When.Parts.map ac),I x_1.Within,str x_1.Repair]),(1,.iptr (.agg [.isl false (a_2.Parties.map str),.isl false (a_2.Clauses.map aa)]) 0),(2,.iptr (I a_3) 0)] [] 1 ?_
 unfold Io at h
 refine ck 6 [3] [] [1] [] [.hp 1 0 [] 12 0 0] [some ⟨0,12,[.agg [str x_1.Id,I x_1.Kind,I x_1.Party,str x_1.Action,I x_1.Other,I x_1.Amount,I x_1.When.Op,str x_1.When.Name,I x_1.When.Day,.isl false (x_1.When.Parts.map ac),I x_1.Within,str x_1.Repair]]⟩] 33 (by kernel_rfl) ?_
 refine d7 [0,1,0,4,0,28,60,124,255,511] rfl (by decide +kernel) ?_
 refine dq [1] [] (.hp 1 0 [] 12 0 11) rfl (al rfl rfl rfl) ?_
 refine dq [1] [] (str x_1.Repair) rfl (aO rfl rfl) ?_
 refine dq [] [] (.iptr (.agg [.isl false (a_2.Parties.map str),.isl false (a_2.Clauses.map aa)]) 1) rfl (al rfl rfl rfl) ?_
 refine dq [] [] (.isl false (a_2.Clauses.map aa)) rfl (aO rfl rfl) ?_
 refine dq [] [] (I a_3) rfl (aO rfl rfl) ?_
 obtain⟨e4,he4,h⟩:=bS h
 refine dq [] [] (.iptr (.agg [str e4.Id,I e4.Kind,I e4.Party,str e4.Action,I e4.Other,I e4.Amount,I e4.When.Op,str e4.When.Name,I e4.When.Day,.isl false (e4.When.Parts.map ac),I e4.Within,str e4.Repair]) 0) rfl (an rfl rfl rfl (aM rfl rfl rfl rfl he4)) ?_
 refine dq [] [] (.iptr (.agg [str e4.Id,I e4.Kind,I e4.Party,str e4.Action,I e4.Other,I e4.Amount,I e4.When.Op,str e4.When.Name,I e4.When.Day,.isl false (e4.When.Parts.map ac),I e4.Within,str e4.Repair]) 0) rfl (al rfl rfl rfl) ?_
 refine dq [] [] (str e4.Id) rfl (aO rfl rfl) ?_
 refine dk 2 [4,13] [B (x_1.Repair==e4.Id),B (x_1.Repair==e4.Id)] ?_
 refine de 193 rfl rfl ?_
 obtain rfl:=Option.some.inj h
 exact ai rfl (qp [B (x_1.Repair==e4.Id)])
theorem RE {G:Go.Ln.Ground}:aH Tryz.prog G 222 Dw:=gT 3 0 bf (Checked.mixed Tryz.checked) Tryz.func222 (fun a r h=>Ud a.1 a.2.1 a.2.2 r h)
def C6:((List Clause)×(Contract×Int))→List V:=cA (ee aa) (oA (fun x:Contract×Int=>(.fn 222 [.iptr (aG x.1) 0,.iptr (I x.2) 0]:V)))
def zN (r:Int):V×List V:=(I r,[])
noncomputable def xc:Ent:=aP [false,false] C6 zN fun x=>Ei x.1 x.2
theorem VH {s_1:List Clause}{f_2:Contract×Int}{r}(h:Ei s_1 f_2=some r):xc.F (C6 (s_1,f_2))=some (zN r):=aA (aY (bw cp) (aB (Ko aQ bO))) h
noncomputable def NM:Code:=ay Tryz.f160
noncomputable def Iz:Env:=bC Tryz.prog [(222,Dw)]
def P5 (x:(List Clause)×(Contract×Int))(r:Int):St→Prop:=QF Iz Tryz.f160 [false,false] (C6 x) (zN r)
theorem I6 (s_1:List Clause)(f_2:Contract×Int):b9 Iz 0 (P5 (s_1,f_2)) (cL (cL (cR (cL (cR NM))))) 0 (qT s_1 f_2) (fun u=>(sT 19 [] [] 1)) fun x3=>(sT 19 [(0,.isl false (s_1.map aa)),(1,.fn 222 [.iptr (.agg [.isl false (f_2.1.Parties.map str),.isl false (f_2.1.Clauses.map aa)]) 0,.iptr (I f_2.2) 0]),(7,I (len s_1)),(8,I x3)] [] 1):=dM (vP s_1 f_2) fun {Q K} hK self ih x3 y h hr hn=>by
 unfold kU at h
 refine cq 5 [9] [B (decide (x3<(len s_1)))] 17 ?_
 refine sq h (fun h=>?_) fun h=>?_
 ·refine aq 1 ?_
  refine cq 12 [5,11,12,13] [I x3,.fn 222 [.iptr (.agg [.isl false (f_2.1.Parties.map str),.isl false (f_2.1.Clauses.map aa)]) 0,.iptr (I f_2.2) 0],.isl false (s_1.map aa),I x3] 97 ?_
  obtain⟨e4,he4,h⟩:=bS h
  refine oq 113 (.iptr (.agg [str e4.Id,I e4.Kind,I e4.Party,str e4.Action,I e4.Other,I e4.Amount,I e4.When.Op,str e4.When.Name,I e4.When.Day,.isl false (e4.When.Parts.map ac),I e4.Within,str e4.Repair]) 0) rfl (an rfl rfl rfl (aM rfl rfl rfl rfl he4)) ?_
  refine cq 1 [15] [.agg [str e4.Id,I e4.Kind,I e4.Party,str e4.Action,I e4.Other,I e4.Amount,I e4.When.Op,str e4.When.Name,I e4.When.Day,.isl false (e4.When.Parts.map ac),I e4.Within,str e4.Repair]] 129 ?_
  obtain⟨r5,hr5,h⟩:=bS h
  refine oq 145 (B r5) rfl (cP (XV hr5)) ?_
  refine aq 1 ?_
  refine sq h (fun h=>?_) fun h=>?_
  ·refine cq 5 [4] [I x3] 177 ?_
   exact ai rfl (hr _ (Option.some.inj h).symm _ (qp [I x3]))
  ·refine aq 1 ?_
   refine cq 5 [8] [I (ar (x3+1))] 177 ?_
   refine cE ?_
   exact rf [0,1,7,8] [] (ih _ _ h hr hn :)
 ·refine aq 1 ?_
  exact rf [] [] (hn _ (Option.some.inj h).symm :) (hk:=hK)
theorem Sl (s_1:List Clause)(f_2:Contract×Int)(r:Int)(h:Ei s_1 f_2=some r):bc Iz Tryz.f160 [false,false] 0 (C6 (s_1,f_2)) (zN r):=by
 show Run _ _ (P5 (s_1,f_2) r) [.code NM] _
 refine rI 19 [(0,.isl false (s_1.map aa)),(1,.fn 222 [.iptr (.agg [.isl false (f_2.1.Parties.map str),.isl false (f_2.1.Clauses.map aa)]) 0,.iptr (I f_2.2) 0])] [] 1 ?_
 unfold Ei at h
 refine cq 8 [6] [.isl false (s_1.map aa)] 33 ?_
 refine oq 49 (I (len s_1)) rfl (aW rfl rfl rfl (bb rfl)) ?_
 refine cq 3 [8] [I (0)] 65 ?_
 obtain⟨y6,hy6,hy61,hy62⟩:=bJ h
 refine bD rfl ?_
 refine rf [0,1,7,8] [] (I6 s_1 f_2 rfl 0 _ hy6 (fun r' e st hq=>by rw[hy61 r' e] at hq;exact hq) fun u6 hu=>?_)
 replace h:=hy62 u6 hu
 refine cq 4 [4] [I (-1)] 17 ?_
 obtain rfl:=Option.some.inj h
 exact ai rfl (qp [I (-1)])
theorem Mt {G:Go.Ln.Ground}:aH Tryz.prog G 160 xc:=gT 2 0 (aD RE bf) (Checked.mixed Tryz.checked) Tryz.func160 (fun a r h=>Sl a.1 a.2 r h)
def Cy:((List Clause)×(Contract×Int))→List V:=cA (ee aa) (oA (fun x:Contract×Int=>(.fn 222 [.iptr (aG x.1) 0,.iptr (I x.2) 0]:V)))
def Dp (r:Bool):V×List V:=(B r,[])
noncomputable def zb:Ent:=aP [false,false] Cy Dp fun x=>En x.1 x.2
theorem Wg {s_1:List Clause}{f_2:Contract×Int}{r}(h:En s_1 f_2=some r):zb.F (Cy (s_1,f_2))=some (Dp r):=aA (aY (bw cp) (aB (Ko aQ bO))) h
noncomputable def VU:Code:=ay Tryz.f221
noncomputable def Ow:Env:=bC Tryz.prog [(160,xc)]
def Wf (x:(List Clause)×(Contract×Int))(r:Bool):St→Prop:=QF Ow Tryz.f221 [false,false] (Cy x) (Dp r)
theorem Rn (s_1:List Clause)(f_2:Contract×Int)(r:Bool)(h:En s_1 f_2=some r):bc Ow Tryz.f221 [false,false] 0 (Cy (s_1,f_2)) (Dp r):=by
 show Run _ _ (Wf (s_1,f_2) r) [.code VU] _
 refine rI 9 [(0,.isl false (s_1.map aa)),(1,.fn 222 [.iptr (.agg [.isl false (f_2.1.Parties.map str),.isl false (f_2.1.Clauses.map aa)]) 0,.iptr (I f_2.2) 0])] [] 1 ?_
 unfold En at h
 refine cq 8 [5,6] [.isl false (s_1.map aa),.fn 222 [.iptr (.agg [.isl false (f_2.1.Parties.map str),.isl false (f_2.1.Clauses.map aa)]) 0,.iptr (I f_2.2) 0]] 49 ?_
 obtain⟨r3,hr3,h⟩:=bS h
 refine oq 65 (I r3) rfl (co rfl rfl (cM rfl rfl rfl (ca (cT rfl) (ca (HX (dh (gL rfl) (dh (gL rfl) kf))) dD)) (VH hr3) (.inr rfl) ec rfl rfl rfl)) ?_
 refine cq 3 [4] [B (decide (r3≥0))] 97 ?_
 obtain rfl:=Option.some.inj h
 exact ai rfl (qp [B (decide (r3≥0))])
theorem My {G:Go.Ln.Ground}:aH Tryz.prog G 221 zb:=gT 2 0 (aD Mt bf) (Checked.mixed Tryz.checked) Tryz.func221 (fun a r h=>Rn a.1 a.2 r h)
def Ft:(Contract×Int)→List V:=cA aG (oA I)
def Fs (r:Bool):V×List V:=(B r,[])
noncomputable def DA:Ent:=aP [false,false] Ft Fs fun x=>Im x.1 x.2
theorem XJ {c_1:Contract}{i_2:Int}{r}(h:Im c_1 i_2=some r):DA.F (Ft (c_1,i_2))=some (Fs r):=aA (aY aQ (aB bO)) h
noncomputable def XO:Code:=ay Tryz.f190
noncomputable def SV:Env:=bC Tryz.prog [(221,zb)]
def XK (x:Contract×Int)(r:Bool):St→Prop:=QF SV Tryz.f190 [false,false] (Ft x) (Fs r)
theorem Ux (c_1:Contract)(i_2:Int)(r:Bool)(h:Im c_1 i_2=some r):bc SV Tryz.f190 [false,false] 0 (Ft (c_1,i_2)) (Fs r):=by
 show Run _ _ (XK (c_1,i_2) r) [.code XO] _
 refine rI 9 [(0,.agg [.isl false (c_1.Parties.map str),.isl false (c_1.Clauses.map aa)]),(1,I i_2)] [] 1 ?_
 unfold Im at h
 refine ck 11 [6,7] [] [1,17] [] [.isl false (c_1.Clauses.map aa),.fn 222 [.hp 1 0 [] 2 0 0,.hp 17 0 [] 1 0 0]] [some ⟨0,2,[.agg [.isl false (c_1.Parties.map str),.isl false (c_1.Clauses.map aa)]]⟩,some ⟨0,1,[I i_2]⟩] 97 (by kernel_rfl) ?_
 obtain⟨r3,hr3,h⟩:=bS h
 refine oq 113 (B r3) rfl (co rfl rfl (cM rfl rfl rfl (ca (cT rfl) (ca (HX (dh (uB (path:=[]) rfl rfl bd rfl rfl) (dh (uB (path:=[]) rfl rfl bd rfl rfl) kf))) dD)) (Wg hr3) (.inl rfl) ec rfl rfl rfl)) ?_
 refine cq 2 [4] [B r3] 129 ?_
 obtain rfl:=Option.some.inj h
 exact ai rfl (qp [B r3])
theorem RT {G:Go.Ln.Ground}:aH Tryz.prog G 190 DA:=gT 2 0 (aD My bf) (Checked.mixed Tryz.checked) Tryz.func190 (fun a r h=>Ux a.1 a.2 r h)
def FQ:(Duty×Duty)→List V:=cA ae (oA (fun x:Duty=>.iptr (ae x) 0))
def Ga (r:Bool):V×List V:=(B r,[])
noncomputable def Ef:Ent:=aP [false,false] FQ Ga fun x=>J5 x.1 x.2
theorem XW {other_1:Duty}{a_2:Duty}{r}(h:J5 other_1 a_2=some r):Ef.F (FQ (other_1,a_2))=some (Ga r):=aA (aY cy (aB (ov cy))) h
noncomputable def Xw:Code:=ay Tryz.f191
noncomputable def Th:Env:=bC Tryz.prog []
def Xx (x:Duty×Duty)(r:Bool):St→Prop:=QF Th Tryz.f191 [false,false] (FQ x) (Ga r)
theorem UK (other_1:Duty)(a_2:Duty)(r:Bool)(h:J5 other_1 a_2=some r):bc Th Tryz.f191 [false,false] 0 (FQ (other_1,a_2)) (Ga r):=by
 show Run _ _ (Xx (other_1,a_2) r) [.code Xw] _
 refine rI 9 [(0,ae other_1),(1,.iptr (ae a_2) 0)] [] 1 ?_
 unfold J5 at h
 refine cq 14 [3] [B (other_1.Clause==a_2.Clause)] 129 ?_
 obtain rfl:=Option.some.inj h
 exact ai rfl (qp [B (other_1.Clause==a_2.Clause)])
theorem Sz {G:Go.Ln.Ground}:aH Tryz.prog G 191 Ef:=gT 2 0 bf (Checked.mixed Tryz.checked) Tryz.func191 (fun a r h=>UK a.1 a.2 r h)
def Dh:((List Duty)×Duty)→List V:=cA (ee ae) (oA (fun x:Duty=>(.fn 191 [.iptr (ae x) 0]:V)))
def AL (r:Int):V×List V:=(I r,[])
noncomputable def xM:Ent:=aP [false,false] Dh AL fun x=>Du x.1 x.2
theorem VM {s_1:List Duty}{f_2:Duty}{r}(h:Du s_1 f_2=some r):xM.F (Dh (s_1,f_2))=some (AL r):=aA (aY (bw cy) (aB (qQ cy))) h
noncomputable def MV:Code:=ay Tryz.f138
noncomputable def HB:Env:=bC Tryz.prog [(191,Ef)]
def N9 (x:(List Duty)×Duty)(r:Int):St→Prop:=QF HB Tryz.f138 [false,false] (Dh x) (AL r)
theorem Jd (s_1:List Duty)(f_2:Duty):b9 HB 0 (N9 (s_1,f_2)) (cL (cL (cR (cL (cR MV))))) 0 (ri s_1 f_2) (fun u=>(sT 19 [] [] 1)) fun x3=>(sT 19 [(0,.isl false (s_1.map ae)),(1,.fn 191 [.iptr (ae f_2) 0]),(7,I (len s_1)),(8,I x3)] [] 1):=dM (vD s_1 f_2) fun {Q K} hK self ih x3 y h hr hn=>by
 unfold kP at h
 refine cq 5 [9] [B (decide (x3<(len s_1)))] 17 ?_
 refine sq h (fun h=>?_) fun h=>?_
 ·refine aq 1 ?_
  refine cq 12 [5,11,12,13] [I x3,.fn 191 [.iptr (ae f_2) 0],.isl false (s_1.map ae),I x3] 97 ?_
  obtain⟨e4,he4,h⟩:=bS h
  refine oq 113 (.iptr (ae e4) 0) rfl (an rfl rfl rfl (aM rfl rfl rfl rfl he4)) ?_
  refine cq 1 [15] [ae e4] 129 ?_
  obtain⟨r5,hr5,h⟩:=bS h
  refine oq 145 (B r5) rfl (cP (XW hr5)) ?_
  refine aq 1 ?_
  refine sq h (fun h=>?_) fun h=>?_
  ·refine cq 5 [4] [I x3] 177 ?_
   exact ai rfl (hr _ (Option.some.inj h).symm _ (qp [I x3]))
  ·refine aq 1 ?_
   refine cq 5 [8] [I (ar (x3+1))] 177 ?_
   refine cE ?_
   exact rf [0,1,7,8] [] (ih _ _ h hr hn :)
 ·refine aq 1 ?_
  exact rf [] [] (hn _ (Option.some.inj h).symm :) (hk:=hK)
theorem Qu (s_1:List Duty)(f_2:Duty)(r:Int)(h:Du s_1 f_2=some r):bc HB Tryz.f138 [false,false] 0 (Dh (s_1,f_2)) (AL r):=by
 show Run _ _ (N9 (s_1,f_2) r) [.code MV] _
 refine rI 19 [(0,.isl false (s_1.map ae)),(1,.fn 191 [.iptr (ae f_2) 0])] [] 1 ?_
 unfold Du at h
 refine cq 8 [6] [.isl false (s_1.map ae)] 33 ?_
 refine oq 49 (I (len s_1)) rfl (aW rfl rfl rfl (bb rfl)) ?_
 refine cq 3 [8] [I (0)] 65 ?_
 obtain⟨y6,hy6,hy61,hy62⟩:=bJ h
 refine bD rfl ?_
 refine rf [0,1,7,8] [] (Jd s_1 f_2 rfl 0 _ hy6 (fun r' e st hq=>by rw[hy61 r' e] at hq;exact hq) fun u6 hu=>?_)
 replace h:=hy62 u6 hu
 refine cq 4 [4] [I (-1)] 17 ?_
 obtain rfl:=Option.some.inj h
 exact ai rfl (qp [I (-1)])
theorem Od {G:Go.Ln.Ground}:aH Tryz.prog G 138 xM:=gT 2 0 (aD Sz bf) (Checked.mixed Tryz.checked) Tryz.func138 (fun a r h=>Qu a.1 a.2 r h)
def CQ:((List Duty)×Duty)→List V:=cA (ee ae) (oA (fun x:Duty=>(.fn 191 [.iptr (ae x) 0]:V)))
def AH (r:Bool):V×List V:=(B r,[])
noncomputable def yY:Ent:=aP [false,false] CQ AH fun x=>Ep x.1 x.2
theorem Wq {s_1:List Duty}{f_2:Duty}{r}(h:Ep s_1 f_2=some r):yY.F (CQ (s_1,f_2))=some (AH r):=aA (aY (bw cy) (aB (qQ cy))) h
noncomputable def Wv:Code:=ay Tryz.f70
noncomputable def MM:Env:=bC Tryz.prog [(138,xM)]
def Wx (x:(List Duty)×Duty)(r:Bool):St→Prop:=QF MM Tryz.f70 [false,false] (CQ x) (AH r)
theorem RO (s_1:List Duty)(f_2:Duty)(r:Bool)(h:Ep s_1 f_2=some r):bc MM Tryz.f70 [false,false] 0 (CQ (s_1,f_2)) (AH r):=by
 show Run _ _ (Wx (s_1,f_2) r) [.code Wv] _
 refine rI 9 [(0,.isl false (s_1.map ae)),(1,.fn 191 [.iptr (ae f_2) 0])] [] 1 ?_
 unfold Ep at h
 refine cq 8 [5,6] [.isl false (s_1.map ae),.fn 191 [.iptr (ae f_2) 0]] 49 ?_
 obtain⟨r3,hr3,h⟩:=bS h
 refine oq 65 (I r3) rfl (co rfl rfl (cM rfl rfl rfl (ca (cT rfl) (ca (HX (dh (gL rfl) kf)) dD)) (VM hr3) (.inr rfl) ec rfl rfl rfl)) ?_
 refine cq 3 [4] [B (decide (r3≥0))] 97 ?_
 obtain rfl:=Option.some.inj h
 exact ai rfl (qp [B (decide (r3≥0))])
theorem OA {G:Go.Ln.Ground}:aH Tryz.prog G 70 yY:=gT 2 0 (aD Od bf) (Checked.mixed Tryz.checked) Tryz.func70 (fun a r h=>RO a.1 a.2 r h)
def FG:(Contract×State×Int)→List V:=cA aG (cA bH (oA I))
def Fn (r:Bool):V×List V:=(B r,[])
noncomputable def DS:Ent:=aP [false,false,false] FG Fn fun x=>Hj x.1 x.2.1 x.2.2
theorem Xc {c_1:Contract}{s_2:State}{i_3:Int}{r}(h:Hj c_1 s_2 i_3=some r):DS.F (FG (c_1,s_2,i_3))=some (Fn r):=aA (aY aQ (aY cS (aB bO))) h
noncomputable def ig:Code:=ay Tryz.f132
noncomputable def nK:Env:=bC Tryz.prog [(86,iI),(190,DA),(70,yY),(126,rj)]
def fz (x:Contract×State×Int)(r:Bool):St→Prop:=QF nK Tryz.f132 [false,false,false] (FG x) (Fn r)
theorem Uu (c_1:Contract)(s_2:State)(i_3:Int)(r:Bool)(h:Hj c_1 s_2 i_3=some r):bc nK Tryz.f132 [false,false,false] 0 (FG (c_1,s_2,i_3)) (Fn r):=by
 show Run _ _ (fz (c_1,s_2,i_3) r) [.code ig] _
 refine rI 114 [(0,.agg [.isl false (c_1.Parties.map str),.isl false (c_1.Clauses.map aa)]),(1,.agg [I s_2.Day,.isl false (s_2.Facts.map str),.isl false (s_2.Duties.map ae),.isl false (s_2.Balances.map I),B s_2.Over]),(2,I i_3)] [] 1 ?_
 unfold Hj at h
 refine ck 11 [3,4,9,10] [] [1,17] [] [.hp 1 0 [] 2 0 0,.hp 17 0 [] 5 0 0,.isl false (s_2.Duties.map ae),I i_3] [some ⟨0,2,[.agg [.isl false (c_1.Parties.map str),.isl false (c_1.Clauses.map aa)]]⟩,some ⟨0,5,[.agg [I s_2.Day,.isl false (s_2.Facts.map str),.isl false (s_2.Duties.map ae),.isl false (s_2.Balances.map I),B s_2.Over]]⟩] 97 (by kernel_rfl) ?_
 obtain⟨e4,he4,h⟩:=bS h
 refine oq 113 (.iptr (ae e4) 0) rfl (an rfl rfl rfl (aM rfl rfl rfl rfl he4)) ?_
 refine ck 11 [7,14,16] [] [129] [] [.hp 129 0 [] 4 0 0,I e4.Clause,.isl false (c_1.Clauses.map aa)] [some ⟨0,4,[ae e4]⟩] 225 (by kernel_rfl) ?_
 refine oq 241 (I (len c_1.Clauses)) rfl (aW rfl rfl rfl (bb rfl)) ?_
 refine cq 1 [18] [I (ar ((len c_1.Clauses) - 1))] 257 ?_
 obtain⟨r5,hr5,h⟩:=bS h
 refine oq 273 (B r5) rfl (cP (iV hr5)) ?_
 refine cq 2 [21] [B (!r5)] 305 ?_
 obtain⟨y6,hy6,hy61,hy62⟩:=bJ h
 have j6:∀u6,y6=.inr u6→Run nK 0 (fz (c_1,s_2,i_3) r) (.code (cR (cL (cR (cR ig))))::.code (cR (cR (cR ig)))::[]) (sT 114 [(2,I i_3),(3,.hp 1 0 [] 2 0 0),(4,.hp 2 0 [] 5 0 0),(7,.hp 3 0 [] 4 0 0),(38,B u6)] [⟨0,2,[.agg [.isl false (c_1.Parties.map str),.isl false (c_1.Clauses.map aa)]]⟩,⟨0,5,[.agg [I s_2.Day,.isl false (s_2.Facts.map str),.isl false (s_2.Duties.map ae),.isl false (s_2.Balances.map I),B s_2.Over]]⟩,⟨0,4,[ae e4]⟩] 4):=by
  intro u6 hu
  replace h:=hy62 u6 hu
  refine sq h (fun h=>?_) fun h=>?_
  ·refine cq 4 [6] [B false] 20 ?_
   obtain rfl:=Option.some.inj h
   exact ai rfl (qp [B false])
  ·refine aq 1 ?_
   refine aq 2 ?_
   refine d7 [0,1,0,4,0,16,0,64,240,496,1008,2044,4095,8191,16383,32767,65535,131071,262143,524287,1048575,2097151,4194303,8388607,16777215,8388607,41943039,8388607,142606335,511705087,1048575999,2122317823,4294967295,8589934591,17179869183] rfl (by decide +kernel) ?_
   refine dq [3] [] (.hp 3 0 [] 4 0 2) rfl (al rfl rfl rfl) ?_
   refine dq [3] [] (I e4.Due) rfl (aO rfl rfl) ?_
   refine dq [3] [] (.hp 3 0 [] 4 0 1) rfl (al rfl rfl rfl) ?_
   refine dq [3] [] (I e4.Since) rfl (aO rfl rfl) ?_
   refine dq [1] [] (.hp 1 0 [] 2 0 1) rfl (al rfl rfl rfl) ?_
   refine dq [1] [] (.isl false (c_1.Clauses.map aa)) rfl (aO rfl rfl) ?_
   refine dq [3] [] (.hp 3 0 [] 4 0 0) rfl (al rfl rfl rfl) ?_
   refine dq [3] [] (I e4.Clause) rfl (aO rfl rfl) ?_
   obtain⟨e7,he7,h⟩:=bS h
   refine dq [] [] (.iptr (.agg [str e7.Id,I e7.Kind,I e7.Party,str e7.Action,I e7.Other,I e7.Amount,I e7.When.Op,str e7.When.Name,I e7.When.Day,.isl false (e7.When.Parts.map ac),I e7.Within,str e7.Repair]) 0) rfl (an rfl rfl rfl (aM rfl rfl rfl rfl he7)) ?_
   refine dq [] [] (.iptr (.agg [str e7.Id,I e7.Kind,I e7.Party,str e7.Action,I e7.Other,I e7.Amount,I e7.When.Op,str e7.When.Name,I e7.When.Day,.isl false (e7.When.Parts.map ac),I e7.Within,str e7.Repair]) 10) rfl (al rfl rfl rfl) ?_
   refine dq [] [] (I e7.Within) rfl (aO rfl rfl) ?_
   refine dk 3 [52,51,50] [B (e4.Due != (ar (e4.Since+e7.Within))),B (e4.Due != (ar (e4.Since+e7.Within))),I (ar (e4.Since+e7.Within))] ?_
   obtain⟨y8,hy8,hy81,hy82⟩:=bJ h
   have j8:∀u8,y8=.inr u8→Run nK 0 (fz (c_1,s_2,i_3) r) (.code (cR (cL (cR (cR (cR ig)))))::.code (cR (cR (cR (cR ig))))::[]) (sT 114 [(2,I i_3),(3,.hp 1 0 [] 2 0 0),(4,.hp 2 0 [] 5 0 0),(7,.hp 3 0 [] 4 0 0),(73,B u8)] [⟨0,2,[.agg [.isl false (c_1.Parties.map str),.isl false (c_1.Clauses.map aa)]]⟩,⟨0,5,[.agg [I s_2.Day,.isl false (s_2.Facts.map str),.isl false (s_2.Duties.map ae),.isl false (s_2.Balances.map I),B s_2.Over]]⟩,⟨0,4,[ae e4]⟩] 4):=by
    intro u8 hu
    replace h:=hy82 u8 hu
    refine sq h (fun h=>?_) fun h=>?_
    ·refine cq 4 [6] [B false] 20 ?_
     obtain rfl:=Option.some.inj h
     exact ai rfl (qp [B false])
    ·refine aq 1 ?_
     refine cq 6 [74,76] [.agg [.isl false (c_1.Parties.map str),.isl false (c_1.Clauses.map aa)],I e4.Clause] 52 ?_
     obtain⟨r9,hr9,h⟩:=bS h
     refine oq 68 (B r9) rfl (cP (XJ hr9)) ?_
     refine cq 2 [79] [B (!r9)] 100 ?_
     obtain⟨y10,hy10,hy101,hy102⟩:=bJ h
     have j10:∀u10,y10=.inr u10→Run nK 0 (fz (c_1,s_2,i_3) r) (.code (cR (cL (cR (cR (cR (cR ig))))))::.code (cR (cR (cR (cR (cR ig)))))::[]) (sT 114 [(4,.hp 1 0 [] 5 0 0),(7,.hp 2 0 [] 4 0 0),(86,B u10)] [⟨0,5,[.agg [I s_2.Day,.isl false (s_2.Facts.map str),.isl false (s_2.Duties.map ae),.isl false (s_2.Balances.map I),B s_2.Over]]⟩,⟨0,4,[ae e4]⟩] 3):=by
      intro u10 hu
      replace h:=hy102 u10 hu
      refine sq h (fun h=>?_) fun h=>?_
      ·refine cq 4 [6] [B false] 19 ?_
       obtain rfl:=Option.some.inj h
       exact ai rfl (qp [B false])
      ·refine aq 1 ?_
       refine cq 12 [88,89] [I e4.Status,B (e4.Status==1)] 67 ?_
       refine sq h (fun h=>?_) fun h=>?_
       ·refine cq 8 [96] [B (decide (e4.Due≥s_2.Day))] 163 ?_
        obtain⟨u11,hu11,h⟩:=lJ h
        have j11:Run nK 0 (fz (c_1,s_2,i_3) r) (.code (cR (cL (cR (cL (cR (cL (cR (cR (cR (cR (cR ig)))))))))))::.blk 0::.code (cR (cR (cR (cR (cR (cR ig))))))::[]) (sT 114 [(6,B u11)] [] 1):=by
         obtain rfl:=Option.some.inj h
         exact ai rfl (qp [B u11])
        replace h:=hu11
        clear hu11
        refine sp 96 h rfl (fun h=>?_) fun h=>?_
        ·refine cq 6 [6] [B (!s_2.Over)] 243 ?_
         subst h
         exact rf [6] [] (j11 :)
        ·refine cq 6 [6] [B false] 243 ?_
         subst h
         exact rf [6] [] (j11 :)
       ·refine cq 5 [101] [B (e4.Status==2)] 99 ?_
        refine sq h (fun h=>?_) fun h=>?_
        ·refine cq 4 [6] [B true] 115 ?_
         obtain rfl:=Option.some.inj h
         exact ai rfl (qp [B true])
        ·refine cq 5 [103] [B (e4.Status==3)] 131 ?_
         refine sq h (fun h=>?_) fun h=>?_
         ·refine cq 9 [6] [B (decide (e4.Due<s_2.Day))] 227 ?_
          obtain rfl:=Option.some.inj h
          exact ai rfl (qp [B (decide (e4.Due<s_2.Day))])
         ·refine cq 5 [110] [B (e4.Status==4)] 163 ?_
          refine sq h (fun h=>?_) fun h=>?_
          ·refine cq 6 [6] [B s_2.Over] 211 ?_
           obtain rfl:=Option.some.inj h
           exact ai rfl (qp [B s_2.Over])
          ·refine aq 1 ?_
           refine cq 5 [6] [B false] 179 ?_
           obtain rfl:=Option.some.inj h
           exact ai rfl (qp [B false])
     have r10:∀r',y10=.inl r'→∀st,fz (c_1,s_2,i_3) r' st→(fz (c_1,s_2,i_3) r) st:=fun r' e st hq=>by rw[hy101 r' e] at hq;exact hq
     replace h:=hy10
     refine sp 79 h rfl (fun h=>?_) fun h=>?_
     ·refine cq 3 [81,82] [.isl false (s_2.Duties.map ae),I i_3] 148 ?_
      obtain⟨s12,hs12,h⟩:=bS h
      refine oy 164 (.isl false (s12.map ae)) rfl (gi rfl rfl rfl rfl (GW rfl rfl (fun y=>(Eg y).1) rfl rfl hs12)) ?_
      refine cq 1 [84] [.fn 191 [.hp 3 0 [] 4 0 0]] 180 ?_
      obtain⟨r13,hr13,h⟩:=bS h
      refine oy 196 (B r13) rfl (co rfl rfl (cM rfl rfl rfl (ca (cT rfl) (ca (HX (dh (uB (path:=[]) rfl rfl bd rfl rfl) kf)) dD)) (Wq hr13) (.inl rfl) ec rfl rfl rfl)) ?_
      refine cq 2 [86] [B r13] 212 ?_
      exact rf [4,7,86] [2,3] (j10 _ (Option.some.inj h).symm :)
     ·refine cq 8 [86] [B false] 212 ?_
      exact rf [4,7,86] [2,3] (j10 _ (Option.some.inj h).symm :)
   have r8:∀r',y8=.inl r'→∀st,fz (c_1,s_2,i_3) r' st→(fz (c_1,s_2,i_3) r) st:=fun r' e st hq=>by rw[hy81 r' e] at hq;exact hq
   replace h:=hy8
   refine sp 52 h rfl (fun h=>?_) fun h=>?_
   ·refine dk 21 [73,72,71,70,69,68,67,66,65,64,63,62,61,60,59,58,57,56,55,54,53] [B true,.und,.und,.und,.und,.und,.und,.und,.und,.und,.und,.und,.und,.und,.und,B true,B true,.und,.und,.und,.und] ?_
    refine de 564 rfl rfl ?_
    exact rf [2,3,4,7,73] [1,2,3] (j8 _ (Option.some.inj h).symm :)
   ·refine dy [3] [] (.hp 3 0 [] 4 0 2) rfl (al rfl rfl rfl) ?_
    refine dy [3] [] (I e4.Due) rfl (aO rfl rfl) ?_
    obtain⟨r14,hr14,h⟩:=bS h
    refine dy [] [] (B r14) rfl (cP (sr hr14)) ?_ (dj rfl rfl rfl rfl (ca (cT rfl) dD) (sr hr14) (.inr rfl) rfl)
    refine dk 3 [58,57,56] [B (!r14),B (!r14),B (!r14)] ?_
    obtain⟨y15,hy15,hy151,hy152⟩:=bL h
    have j15:∀u15,y15=.inr u15→Run nK 0 (fz (c_1,s_2,i_3) r) (.code (cR (cL (cR (cR (cR ig)))))::.code (cR (cR (cR (cR ig))))::[]) (sT 114 [(2,I i_3),(3,.hp 1 0 [] 2 0 0),(4,.hp 2 0 [] 5 0 0),(7,.hp 3 0 [] 4 0 0),(73,B u15)] [⟨0,2,[.agg [.isl false (c_1.Parties.map str),.isl false (c_1.Clauses.map aa)]]⟩,⟨0,5,[.agg [I s_2.Day,.isl false (s_2.Facts.map str),.isl false (s_2.Duties.map ae),.isl false (s_2.Balances.map I),B s_2.Over]]⟩,⟨0,4,[ae e4]⟩] 4):=by
     intro u15 hu
     replace h:=hy152 u15 hu
     exact rf [2,3,4,7,73] [1,2,3] (j8 _ (Option.some.inj h).symm :)
    have r15:∀r',y15=.inl r'→∀st,fz (c_1,s_2,i_3) r' st→(fz (c_1,s_2,i_3) r) st:=fun r' e st hq=>r8 r' (hy151 r' e) st hq
    replace h:=hy15
    refine sp 58 h rfl (fun h=>?_) fun h=>?_
    ·refine dk 15 [73,72,71,70,69,68,67,66,65,64,63,62,61,60,59] [B true,.und,.und,.und,.und,.und,.und,.und,.und,.und,.und,.und,.und,.und,.und] ?_
     refine de 564 rfl rfl ?_
     exact rf [2,3,4,7,73] [1,2,3] (j15 _ (Option.some.inj h).symm :)
    ·refine dk 3 [61,60,59] [B (decide (i_3>0)),B (decide (i_3>0)),I i_3] ?_
     obtain⟨y16,hy16,hy161,hy162⟩:=bL h
     have j16:∀u16,y16=.inr u16→Run nK 0 (fz (c_1,s_2,i_3) r) (.code (cR (cL (cR (cR (cR ig)))))::.code (cR (cR (cR (cR ig))))::[]) (sT 114 [(2,I i_3),(3,.hp 1 0 [] 2 0 0),(4,.hp 2 0 [] 5 0 0),(7,.hp 3 0 [] 4 0 0),(73,B u16)] [⟨0,2,[.agg [.isl false (c_1.Parties.map str),.isl false (c_1.Clauses.map aa)]]⟩,⟨0,5,[.agg [I s_2.Day,.isl false (s_2.Facts.map str),.isl false (s_2.Duties.map ae),.isl false (s_2.Balances.map I),B s_2.Over]]⟩,⟨0,4,[ae e4]⟩] 4):=by
      intro u16 hu
      replace h:=hy162 u16 hu
      exact rf [2,3,4,7,73] [1,2,3] (j15 _ (Option.some.inj h).symm :)
     have r16:∀r',y16=.inl r'→∀st,fz (c_1,s_2,i_3) r' st→(fz (c_1,s_2,i_3) r) st:=fun r' e st hq=>r15 r' (hy161 r' e) st hq
     replace h:=hy16
     refine sp 61 h rfl (fun h=>?_) fun h=>?_
     ·refine dy [3] [] (.hp 3 0 [] 4 0 1) rfl (al rfl rfl rfl) ?_
      refine dy [3] [] (I e4.Since) rfl (aO rfl rfl) ?_
      refine dy [2] [] (.hp 2 0 [] 5 0 2) rfl (al rfl rfl rfl) ?_
      refine dy [2] [] (.isl false (s_2.Duties.map ae)) rfl (aO rfl rfl) ?_
      refine dk 2 [67,66] [I (ar (i_3 - 1)),I i_3] ?_
      obtain⟨e17,he17,h⟩:=bS h
      refine dy [] [] (.iptr (ae e17) 0) rfl (an rfl rfl rfl (aM rfl rfl rfl rfl he17)) ?_
      refine dy [] [] (.iptr (ae e17) 1) rfl (al rfl rfl rfl) ?_
      refine dy [] [] (I e17.Since) rfl (aO rfl rfl) ?_
      refine dk 3 [73,72,71] [B (decide (e4.Since<e17.Since)),B (decide (e4.Since<e17.Since)),B (decide (e4.Since<e17.Since))] ?_
      refine de 564 rfl rfl ?_
      exact rf [2,3,4,7,73] [1,2,3] (j16 _ (Option.some.inj h).symm :)
     ·refine dk 12 [73,72,71,70,69,68,67,66,65,64,63,62] [B false,B false,.und,.und,.und,.und,.und,.und,.und,.und,.und,.und] ?_
      refine de 564 rfl rfl ?_
      exact rf [2,3,4,7,73] [1,2,3] (j16 _ (Option.some.inj h).symm :)
 have r6:∀r',y6=.inl r'→∀st,fz (c_1,s_2,i_3) r' st→(fz (c_1,s_2,i_3) r) st:=fun r' e st hq=>by rw[hy61 r' e] at hq;exact hq
 replace h:=hy6
 refine sp 21 h rfl (fun h=>?_) fun h=>?_
 ·refine cq 18 [38] [B true] 577 ?_
  exact rf [2,3,4,7,38] [1,17,129] (j6 _ (Option.some.inj h).symm :)
 ·refine cq 4 [23,25] [.isl false (c_1.Clauses.map aa),I e4.Clause] 369 ?_
  obtain⟨e18,he18,h⟩:=bS h
  refine oy 385 (.iptr (.agg [str e18.Id,I e18.Kind,I e18.Party,str e18.Action,I e18.Other,I e18.Amount,I e18.When.Op,str e18.When.Name,I e18.When.Day,.isl false (e18.When.Parts.map ac),I e18.Within,str e18.Repair]) 0) rfl (an rfl rfl rfl (aM rfl rfl rfl rfl he18)) ?_
  refine cq 5 [31] [B (e18.Kind != 1)] 465 ?_
  obtain⟨y19,hy19,hy191,hy192⟩:=bL h
  have j19:∀u19,y19=.inr u19→Run nK 0 (fz (c_1,s_2,i_3) r) (.code (cR (cL (cR (cR ig))))::.code (cR (cR (cR ig)))::[]) (sT 114 [(2,I i_3),(3,.hp 1 0 [] 2 0 0),(4,.hp 2 0 [] 5 0 0),(7,.hp 3 0 [] 4 0 0),(38,B u19)] [⟨0,2,[.agg [.isl false (c_1.Parties.map str),.isl false (c_1.Clauses.map aa)]]⟩,⟨0,5,[.agg [I s_2.Day,.isl false (s_2.Facts.map str),.isl false (s_2.Duties.map ae),.isl false (s_2.Balances.map I),B s_2.Over]]⟩,⟨0,4,[ae e4]⟩] 4):=by
   intro u19 hu
   replace h:=hy192 u19 hu
   exact rf [2,3,4,7,38] [1,2,3] (j6 _ (Option.some.inj h).symm :)
  have r19:∀r',y19=.inl r'→∀st,fz (c_1,s_2,i_3) r' st→(fz (c_1,s_2,i_3) r) st:=fun r' e st hq=>r6 r' (hy191 r' e) st hq
  replace h:=hy19
  refine sp 31 h rfl (fun h=>?_) fun h=>?_
  ·refine cq 8 [38] [B true] 577 ?_
   exact rf [2,3,4,7,38] [1,17,129] (j19 _ (Option.some.inj h).symm :)
  ·refine cq 4 [33,35] [I e4.Since,I s_2.Day] 529 ?_
   obtain⟨r20,hr20,h⟩:=bS h
   refine oy 545 (B r20) rfl (cP (iV hr20)) ?_
   refine cq 3 [38] [B (!r20)] 577 ?_
   exact rf [2,3,4,7,38] [1,17,129] (j19 _ (Option.some.inj h).symm :)
theorem Ss {G:Go.Ln.Ground}:aH Tryz.prog G 132 DS:=gT 3 0 (aD jD (aD RT (aD OA (aD yP bf)))) (Checked.mixed Tryz.checked) Tryz.func132 (fun a r h=>Uu a.1 a.2.1 a.2.2 r h)
def F6:Int→List V:=oA I
def FB (r:Bool):V×List V:=(B r,[])
noncomputable def D2:Ent:=aP [false] F6 FB fun x=>Kn x
theorem XC {x_1:Int}{r}(h:Kn x_1=some r):D2.F (F6 x_1)=some (FB r):=aA (aB bO) h
noncomputable def XM:Code:=ay Tryz.f135
noncomputable def Tf:Env:=bC Tryz.prog [(86,iI)]
def Xn (x:Int)(r:Bool):St→Prop:=QF Tf Tryz.f135 [false] (F6 x) (FB r)
theorem T6 (x_1:Int)(r:Bool)(h:Kn x_1=some r):bc Tf Tryz.f135 [false] 0 (F6 x_1) (FB r):=by
 show Run _ _ (Xn x_1 r) [.code XM] _
 refine rI 5 [(0,I x_1)] [] 1 ?_
 unfold Kn at h
 refine cq 7 [3] [I x_1] 33 ?_
 obtain⟨r2,hr2,h⟩:=bS h
 refine oq 49 (B r2) rfl (cP (iV hr2)) ?_
 refine cq 2 [2] [B r2] 65 ?_
 obtain rfl:=Option.some.inj h
 exact ai rfl (qp [B r2])
theorem Qw {G:Go.Ln.Ground}:aH Tryz.prog G 135 D2:=gT 1 0 (aD jD bf) (Checked.mixed Tryz.checked) Tryz.func135 (fun a r h=>T6 a r h)
def FD:Int→List V:=oA I
def FE (r:Bool):V×List V:=(B r,[])
noncomputable def DH:Ent:=aP [false] FD FE fun x=>H6 x
theorem Xe {b_1:Int}{r}(h:H6 b_1=some r):DH.F (FD b_1)=some (FE r):=aA (aB bO) h
noncomputable def Xq:Code:=ay Tryz.f134
noncomputable def S4:Env:=bC Tryz.prog [(135,D2)]
def Xj (x:Int)(r:Bool):St→Prop:=QF S4 Tryz.f134 [false] (FD x) (FE r)
theorem Ue (b_1:Int)(r:Bool)(h:H6 b_1=some r):bc S4 Tryz.f134 [false] 0 (FD b_1) (FE r):=by
 show Run _ _ (Xj b_1 r) [.code Xq] _
 refine rI 6 [(0,I b_1)] [] 1 ?_
 unfold H6 at h
 refine cq 7 [3] [I b_1] 33 ?_
 obtain⟨r2,hr2,h⟩:=bS h
 refine oq 49 (B r2) rfl (cP (XC hr2)) ?_
 refine cq 3 [2] [B (!r2)] 81 ?_
 obtain rfl:=Option.some.inj h
 exact ai rfl (qp [B (!r2)])
theorem Ry {G:Go.Ln.Ground}:aH Tryz.prog G 134 DH:=gT 1 0 (aD Qw bf) (Checked.mixed Tryz.checked) Tryz.func134 (fun a r h=>Ue a r h)
def CK:((List Int)×Unit)→List V:=cA (ee I) (oA (fun x:Unit=>(.fn 134 []:V)))
def AC (r:Int):V×List V:=(I r,[])
noncomputable def wS:Ent:=aP [false,false] CK AC fun x=>D7 x.1 x.2
theorem V3 {s_1:List Int}{f_2:Unit}{r}(h:D7 s_1 f_2=some r):wS.F (CK (s_1,f_2))=some (AC r):=aA (aY (bw bO) (aB (uW ))) h
noncomputable def Mw:Code:=ay Tryz.f192
noncomputable def HD:Env:=bC Tryz.prog [(134,DH)]
def Ms (x:(List Int)×Unit)(r:Int):St→Prop:=QF HD Tryz.f192 [false,false] (CK x) (AC r)
theorem Jz (s_1:List Int)(f_2:Unit):b9 HD 0 (Ms (s_1,f_2)) (cL (cL (cR (cL (cR Mw))))) 0 (qX s_1 f_2) (fun u=>(sT 19 [] [] 1)) fun x3=>(sT 19 [(0,.isl false (s_1.map I)),(1,.fn 134 []),(7,I (len s_1)),(8,I x3)] [] 1):=dM (v8 s_1 f_2) fun {Q K} hK self ih x3 y h hr hn=>by
 unfold kI at h
 refine cq 5 [9] [B (decide (x3<(len s_1)))] 17 ?_
 refine sq h (fun h=>?_) fun h=>?_
 ·refine aq 1 ?_
  refine cq 12 [5,11,12,13] [I x3,.fn 134 [],.isl false (s_1.map I),I x3] 97 ?_
  obtain⟨e4,he4,h⟩:=bS h
  refine oq 113 (.iptr (I e4) 0) rfl (an rfl rfl rfl (aM rfl rfl rfl rfl he4)) ?_
  refine cq 1 [15] [I e4] 129 ?_
  obtain⟨r5,hr5,h⟩:=bS h
  refine oq 145 (B r5) rfl (cP (Xe hr5)) ?_
  refine aq 1 ?_
  refine sq h (fun h=>?_) fun h=>?_
  ·refine cq 5 [4] [I x3] 177 ?_
   exact ai rfl (hr _ (Option.some.inj h).symm _ (qp [I x3]))
  ·refine aq 1 ?_
   refine cq 5 [8] [I (ar (x3+1))] 177 ?_
   refine cE ?_
   exact rf [0,1,7,8] [] (ih _ _ h hr hn :)
 ·refine aq 1 ?_
  exact rf [] [] (hn _ (Option.some.inj h).symm :) (hk:=hK)
theorem So (s_1:List Int)(f_2:Unit)(r:Int)(h:D7 s_1 f_2=some r):bc HD Tryz.f192 [false,false] 0 (CK (s_1,f_2)) (AC r):=by
 show Run _ _ (Ms (s_1,f_2) r) [.code Mw] _
 refine rI 19 [(0,.isl false (s_1.map I)),(1,.fn 134 [])] [] 1 ?_
 unfold D7 at h
 refine cq 8 [6] [.isl false (s_1.map I)] 33 ?_
 refine oq 49 (I (len s_1)) rfl (aW rfl rfl rfl (bb rfl)) ?_
 refine cq 3 [8] [I (0)] 65 ?_
 obtain⟨y6,hy6,hy61,hy62⟩:=bJ h
 refine bD rfl ?_
 refine rf [0,1,7,8] [] (Jz s_1 f_2 rfl 0 _ hy6 (fun r' e st hq=>by rw[hy61 r' e] at hq;exact hq) fun u6 hu=>?_)
 replace h:=hy62 u6 hu
 refine cq 4 [4] [I (-1)] 17 ?_
 obtain rfl:=Option.some.inj h
 exact ai rfl (qp [I (-1)])
theorem Pg {G:Go.Ln.Ground}:aH Tryz.prog G 192 wS:=gT 2 0 (aD Ry bf) (Checked.mixed Tryz.checked) Tryz.func192 (fun a r h=>So a.1 a.2 r h)
def AZ:((List Int)×Unit)→List V:=cA (ee I) (oA (fun x:Unit=>(.fn 134 []:V)))
def BK (r:Bool):V×List V:=(B r,[])
noncomputable def yG:Ent:=aP [false,false] AZ BK fun x=>D1 x.1 x.2
theorem Wn {s_1:List Int}{f_2:Unit}{r}(h:D1 s_1 f_2=some r):yG.F (AZ (s_1,f_2))=some (BK r):=aA (aY (bw bO) (aB (uW ))) h
noncomputable def WH:Code:=ay Tryz.f133
noncomputable def OK:Env:=bC Tryz.prog [(192,wS)]
def W6 (x:(List Int)×Unit)(r:Bool):St→Prop:=QF OK Tryz.f133 [false,false] (AZ x) (BK r)
theorem QT (s_1:List Int)(f_2:Unit)(r:Bool)(h:D1 s_1 f_2=some r):bc OK Tryz.f133 [false,false] 0 (AZ (s_1,f_2)) (BK r):=by
 show Run _ _ (W6 (s_1,f_2) r) [.code WH] _
 refine rI 9 [(0,.isl false (s_1.map I)),(1,.fn 134 [])] [] 1 ?_
 unfold D1 at h
 refine cq 8 [5,6] [.isl false (s_1.map I),.fn 134 []] 49 ?_
 obtain⟨r3,hr3,h⟩:=bS h
 refine oq 65 (I r3) rfl (cP (V3 hr3)) ?_
 refine cq 3 [4] [B (decide (r3≥0))] 97 ?_
 obtain rfl:=Option.some.inj h
 exact ai rfl (qp [B (decide (r3≥0))])
theorem Ox {G:Go.Ln.Ground}:aH Tryz.prog G 133 yG:=gT 2 0 (aD Pg bf) (Checked.mixed Tryz.checked) Tryz.func133 (fun a r h=>QT a.1 a.2 r h)
def FS:(Contract×State)→List V:=cA aG (oA bH)
def FM (r:Bool):V×List V:=(B r,[])
noncomputable def DD:Ent:=aP [false,false] FS FM fun x=>HS x.1 x.2
theorem Xd {c_1:Contract}{s_2:State}{r}(h:HS c_1 s_2=some r):DD.F (FS (c_1,s_2))=some (FM r):=aA (aY aQ (aB cS)) h
noncomputable def mF:Code:=ay Tryz.f66
noncomputable def rN:Env:=bC Tryz.prog [(125,vp),(126,rj),(132,DS),(133,yG),(131,DZ),(127,Dy),(128,xk)]
def i7 (x:Contract×State)(r:Bool):St→Prop:=QF rN Tryz.f66 [false,false] (FS x) (FM r)
theorem LY (c_1:Contract)(s_2:State):b9 rN 0 (i7 (c_1,s_2)) (cL (cL (cR (cL (cR (cR (cR (cR mF)))))))) 0 (nq c_1 s_2) (fun u=>(sT 60 [(3,.hp 1 0 [] 5 0 0)] [⟨0,5,[.agg [I s_2.Day,.isl false (s_2.Facts.map str),.isl false (s_2.Duties.map ae),.isl false (s_2.Balances.map I),B s_2.Over]]⟩] 2)) fun x7=>(sT 60 [(2,.hp 1 0 [] 2 0 0),(3,.hp 2 0 [] 5 0 0),(46,I (len s_2.Duties)),(47,I x7)] [⟨0,2,[.agg [.isl false (c_1.Parties.map str),.isl false (c_1.Clauses.map aa)]]⟩,⟨0,5,[.agg [I s_2.Day,.isl false (s_2.Facts.map str),.isl false (s_2.Duties.map ae),.isl false (s_2.Balances.map I),B s_2.Over]]⟩] 3):=dM (CO c_1 s_2) fun {Q K} hK self ih x7 y h hr hn=>by
 unfold kH at h
 refine cq 5 [48] [B (decide (x7<(len s_2.Duties)))] 19 ?_
 refine sq h (fun h=>?_) fun h=>?_
 ·refine aq 1 ?_
  refine cq 12 [50,51,52] [.agg [.isl false (c_1.Parties.map str),.isl false (c_1.Clauses.map aa)],.agg [I s_2.Day,.isl false (s_2.Facts.map str),.isl false (s_2.Duties.map ae),.isl false (s_2.Balances.map I),B s_2.Over],I x7] 99 ?_
  obtain⟨r8,hr8,h⟩:=bS h
  refine oq 115 (B r8) rfl (cP (Xc hr8)) ?_
  refine cq 2 [54] [B (!r8)] 131 ?_
  refine sq h (fun h=>?_) fun h=>?_
  ·refine cq 4 [4] [B false] 147 ?_
   exact ai rfl (hr _ (Option.some.inj h).symm _ (qp [B false]))
  ·refine aq 1 ?_
   refine cq 5 [47] [I (ar (x7+1))] 163 ?_
   refine cE ?_
   exact rf [2,3,46,47] [1,2] (ih _ _ h hr hn :)
 ·refine aq 1 ?_
  exact rf [3] [2] (hn _ (Option.some.inj h).symm :) (hk:=hK)
theorem T7 (c_1:Contract)(s_2:State)(r:Bool)(h:HS c_1 s_2=some r):bc rN Tryz.f66 [false,false] 0 (FS (c_1,s_2)) (FM r):=by
 show Run _ _ (i7 (c_1,s_2) r) [.code mF] _
 refine rI 60 [(0,.agg [.isl false (c_1.Parties.map str),.isl false (c_1.Clauses.map aa)]),(1,.agg [I s_2.Day,.isl false (s_2.Facts.map str),.isl false (s_2.Duties.map ae),.isl false (s_2.Balances.map I),B s_2.Over])] [] 1 ?_
 unfold HS at h
 refine ck 9 [2,3,7] [] [1,17] [] [.hp 1 0 [] 2 0 0,.hp 17 0 [] 5 0 0,.agg [.isl false (c_1.Parties.map str),.isl false (c_1.Clauses.map aa)]] [some ⟨0,2,[.agg [.isl false (c_1.Parties.map str),.isl false (c_1.Clauses.map aa)]]⟩,some ⟨0,5,[.agg [I s_2.Day,.isl false (s_2.Facts.map str),.isl false (s_2.Duties.map ae),.isl false (s_2.Balances.map I),B s_2.Over]]⟩] 65 (by kernel_rfl) ?_
 obtain⟨r3,hr3,h⟩:=bS h
 refine oq 81 (.hs 65 0 [] 1 0 (r3.map str).length) rfl (cP (Tj hr3)) ?_
 refine ck 1 [5] [] [81] [] [.hp 81 0 [] 1 0 0] [some ⟨0,1,[.isl true []]⟩] 97 (by kernel_rfl) ?_
 refine d9 81 [.usl 1 (([]).map str)] rfl rfl (au (.nil _) dz) ?_
 refine o0 113 rfl rfl (gf rfl rfl (eP (path:=[]) (pl:=false) (e':=.usl 1 (r3.map str)) (es2':=[.usl 1 (r3.map str)]) rfl (fk rfl (cN rfl rfl)) rfl rfl rfl bd rfl rfl rfl rfl rfl dU 2 rfl)) ?_
 refine cq 6 [10] [I s_2.Day] 145 ?_
 obtain⟨r4,hr4,h⟩:=bS h
 refine oq 161 (B r4) rfl (cP (sr hr4)) ?_
 refine cq 2 [13] [B (!r4)] 193 ?_
 obtain⟨y5,hy5,hy51,hy52⟩:=bJ h
 have j5:∀u5,y5=.inr u5→Run rN 0 (i7 (c_1,s_2) r) (.code (cR (cL (cR (cR mF))))::.code (cR (cR (cR mF)))::[]) (sT 60 [(2,.hp 1 0 [] 2 0 0),(3,.hp 2 0 [] 5 0 0),(24,B u5)] [⟨0,2,[.agg [.isl false (c_1.Parties.map str),.isl false (c_1.Clauses.map aa)]]⟩,⟨0,5,[.agg [I s_2.Day,.isl false (s_2.Facts.map str),.isl false (s_2.Duties.map ae),.isl false (s_2.Balances.map I),B s_2.Over]]⟩] 3):=by
  intro u5 hu
  replace h:=hy52 u5 hu
  refine sq h (fun h=>?_) fun h=>?_
  ·refine cq 4 [4] [B false] 19 ?_
   obtain rfl:=Option.some.inj h
   exact ai rfl (qp [B false])
  ·refine aq 1 ?_
   refine cq 5 [26] [.isl false (s_2.Duties.map ae)] 35 ?_
   refine oq 51 (I (len s_2.Duties)) rfl (aW rfl rfl rfl (bb rfl)) ?_
   refine cq 2 [29] [B (decide ((len s_2.Duties)>24))] 83 ?_
   obtain⟨y6,hy6,hy61,hy62⟩:=bJ h
   have j6:∀u6,y6=.inr u6→Run rN 0 (i7 (c_1,s_2) r) (.code (cR (cL (cR (cR (cR mF)))))::.code (cR (cR (cR (cR mF))))::[]) (sT 60 [(2,.hp 1 0 [] 2 0 0),(3,.hp 2 0 [] 5 0 0),(43,B u6)] [⟨0,2,[.agg [.isl false (c_1.Parties.map str),.isl false (c_1.Clauses.map aa)]]⟩,⟨0,5,[.agg [I s_2.Day,.isl false (s_2.Facts.map str),.isl false (s_2.Duties.map ae),.isl false (s_2.Balances.map I),B s_2.Over]]⟩] 3):=by
    intro u6 hu
    replace h:=hy62 u6 hu
    refine sq h (fun h=>?_) fun h=>?_
    ·refine cq 4 [4] [B false] 19 ?_
     obtain rfl:=Option.some.inj h
     exact ai rfl (qp [B false])
    ·refine aq 1 ?_
     refine cq 5 [45] [.isl false (s_2.Duties.map ae)] 35 ?_
     refine oq 51 (I (len s_2.Duties)) rfl (aW rfl rfl rfl (bb rfl)) ?_
     refine cq 3 [47] [I (0)] 67 ?_
     obtain⟨y9,hy9,hy91,hy92⟩:=bJ h
     refine bD rfl ?_
     refine rf [2,3,46,47] [1,2] (LY c_1 s_2 rfl 0 _ hy9 (fun r' e st hq=>by rw[hy91 r' e] at hq;exact hq) fun u9 hu=>?_)
     replace h:=hy92 u9 hu
     refine cq 4 [57] [.isl false (s_2.Balances.map I)] 34 ?_
     obtain⟨r10,hr10,h⟩:=bS h
     refine oq 50 (B r10) rfl (cP (Wn hr10)) ?_
     refine cq 3 [4] [B (!r10)] 82 ?_
     obtain rfl:=Option.some.inj h
     exact ai rfl (qp [B (!r10)])
   have r6:∀r',y6=.inl r'→∀st,i7 (c_1,s_2) r' st→(i7 (c_1,s_2) r) st:=fun r' e st hq=>by rw[hy61 r' e] at hq;exact hq
   replace h:=hy6
   refine sp 29 h rfl (fun h=>?_) fun h=>?_
   ·refine cq 15 [43] [B true] 307 ?_
    exact rf [2,3,43] [1,2] (j6 _ (Option.some.inj h).symm :)
   ·refine cq 2 [31] [.isl false (s_2.Balances.map I)] 115 ?_
    refine oy 131 (I (len s_2.Balances)) rfl (aW rfl rfl rfl (bb rfl)) ?_
    refine cq 2 [34] [.isl false (c_1.Parties.map str)] 163 ?_
    refine oy 179 (I (len c_1.Parties)) rfl (aW rfl rfl rfl (bb rfl)) ?_
    refine cq 3 [38] [B ((len s_2.Balances) != (len c_1.Parties))] 227 ?_
    obtain⟨y11,hy11,hy111,hy112⟩:=bL h
    have j11:∀u11,y11=.inr u11→Run rN 0 (i7 (c_1,s_2) r) (.code (cR (cL (cR (cR (cR mF)))))::.code (cR (cR (cR (cR mF))))::[]) (sT 60 [(2,.hp 1 0 [] 2 0 0),(3,.hp 2 0 [] 5 0 0),(43,B u11)] [⟨0,2,[.agg [.isl false (c_1.Parties.map str),.isl false (c_1.Clauses.map aa)]]⟩,⟨0,5,[.agg [I s_2.Day,.isl false (s_2.Facts.map str),.isl false (s_2.Duties.map ae),.isl false (s_2.Balances.map I),B s_2.Over]]⟩] 3):=by
     intro u11 hu
     replace h:=hy112 u11 hu
     exact rf [2,3,43] [1,2] (j6 _ (Option.some.inj h).symm :)
    have r11:∀r',y11=.inl r'→∀st,i7 (c_1,s_2) r' st→(i7 (c_1,s_2) r) st:=fun r' e st hq=>r6 r' (hy111 r' e) st hq
    replace h:=hy11
    refine sp 38 h rfl (fun h=>?_) fun h=>?_
    ·refine cq 6 [43] [B true] 307 ?_
     exact rf [2,3,43] [1,2] (j11 _ (Option.some.inj h).symm :)
    ·refine cq 2 [40] [.isl false (s_2.Balances.map I)] 259 ?_
     obtain⟨r12,hr12,h⟩:=bS h
     refine oy 275 (I r12) rfl (cP (W9 hr12)) ?_
     refine cq 3 [43] [B (r12 != 0)] 307 ?_
     exact rf [2,3,43] [1,2] (j11 _ (Option.some.inj h).symm :)
 have r5:∀r',y5=.inl r'→∀st,i7 (c_1,s_2) r' st→(i7 (c_1,s_2) r) st:=fun r' e st hq=>by rw[hy51 r' e] at hq;exact hq
 replace h:=hy5
 refine sp 13 h rfl (fun h=>?_) fun h=>?_
 ·refine cq 12 [24] [B true] 369 ?_
  exact rf [2,3,24] [1,17] (j5 _ (Option.some.inj h).symm :)
 ·refine cq 2 [15] [.isl false (s_2.Facts.map str)] 225 ?_
  obtain⟨r13,hr13,h⟩:=bS h
  refine oy 241 (B r13) rfl (cP (Xy hr13)) ?_
  refine cq 3 [19] [B (!r13)] 289 ?_
  obtain⟨y14,hy14,hy141,hy142⟩:=bL h
  have j14:∀u14,y14=.inr u14→Run rN 0 (i7 (c_1,s_2) r) (.code (cR (cL (cR (cR mF))))::.code (cR (cR (cR mF)))::[]) (sT 60 [(2,.hp 1 0 [] 2 0 0),(3,.hp 2 0 [] 5 0 0),(24,B u14)] [⟨0,2,[.agg [.isl false (c_1.Parties.map str),.isl false (c_1.Clauses.map aa)]]⟩,⟨0,5,[.agg [I s_2.Day,.isl false (s_2.Facts.map str),.isl false (s_2.Duties.map ae),.isl false (s_2.Balances.map I),B s_2.Over]]⟩] 3):=by
   intro u14 hu
   replace h:=hy142 u14 hu
   exact rf [2,3,24] [1,2] (j5 _ (Option.some.inj h).symm :)
  have r14:∀r',y14=.inl r'→∀st,i7 (c_1,s_2) r' st→(i7 (c_1,s_2) r) st:=fun r' e st hq=>r5 r' (hy141 r' e) st hq
  replace h:=hy14
  refine sp 19 h rfl (fun h=>?_) fun h=>?_
  ·refine cq 6 [24] [B true] 369 ?_
   exact rf [2,3,24] [1,17] (j14 _ (Option.some.inj h).symm :)
  ·refine cq 3 [21,22] [.isl false (s_2.Facts.map str),.fn 129 [.hp 81 0 [] 1 0 0]] 337 ?_
   obtain⟨r15,hr15,h⟩:=bS h
   refine oy 353 (B r15) rfl (co rfl rfl (cM rfl rfl rfl (ca (cT rfl) (ca (HX (dh (uB (path:=[]) rfl rfl bd rfl (Ti (bV em))) kf)) dD)) (Wb hr15) (.inl rfl) ec rfl rfl rfl)) ?_
   refine cq 2 [24] [B r15] 369 ?_
   exact rf [2,3,24] [1,17] (j14 _ (Option.some.inj h).symm :)
theorem QB {G:Go.Ln.Ground}:aH Tryz.prog G 66 DD:=gT 2 0 (aD IE (aD yP (aD Ss (aD Ox (aD QN (aD Rl (aD PD bf))))))) (Checked.mixed Tryz.checked) Tryz.func66 (fun a r h=>T7 a.1 a.2 r h)
def FI:(Contract×State)→List V:=cA aG (oA bH)
def Gc (r:Bool):V×List V:=(B r,[])
noncomputable def DB:Ent:=aP [false,false] FI Gc fun x=>EY x.1 x.2
theorem X0 {c_1:Contract}{s_2:State}{r}(h:EY c_1 s_2=some r):DB.F (FI (c_1,s_2))=some (Gc r):=aA (aY aQ (aB cS)) h
noncomputable def S1:Code:=ay Tryz.f20
noncomputable def LC:Env:=bC Tryz.prog [(65,DN),(66,DD)]
def FF (x:Contract×State)(r:Bool):St→Prop:=QF LC Tryz.f20 [false,false] (FI x) (Gc r)
theorem Ts (c_1:Contract)(s_2:State)(r:Bool)(h:EY c_1 s_2=some r):bc LC Tryz.f20 [false,false] 0 (FI (c_1,s_2)) (Gc r):=by
 show Run _ _ (FF (c_1,s_2) r) [.code S1] _
 refine rI 12 [(0,.agg [.isl false (c_1.Parties.map str),.isl false (c_1.Clauses.map aa)]),(1,.agg [I s_2.Day,.isl false (s_2.Facts.map str),.isl false (s_2.Duties.map ae),.isl false (s_2.Balances.map I),B s_2.Over])] [] 1 ?_
 unfold EY at h
 refine ck 9 [2,3,5] [] [1,17] [] [.hp 1 0 [] 2 0 0,.hp 17 0 [] 5 0 0,.agg [.isl false (c_1.Parties.map str),.isl false (c_1.Clauses.map aa)]] [some ⟨0,2,[.agg [.isl false (c_1.Parties.map str),.isl false (c_1.Clauses.map aa)]]⟩,some ⟨0,5,[.agg [I s_2.Day,.isl false (s_2.Facts.map str),.isl false (s_2.Duties.map ae),.isl false (s_2.Balances.map I),B s_2.Over]]⟩] 65 (by kernel_rfl) ?_
 obtain⟨r3,hr3,h⟩:=bS h
 refine oq 81 (B r3) rfl (cP (Xu hr3)) ?_
 refine cq 1 [7] [B r3] 97 ?_
 obtain⟨y4,hy4,hy41,hy42⟩:=bJ h
 have j4:∀u4,y4=.inr u4→Run LC 0 (FF (c_1,s_2) r) (.code (cR (cR S1))::[]) (sT 12 [(4,B u4)] [] 1):=by
  intro u4 hu
  replace h:=hy42 u4 hu
  obtain rfl:=Option.some.inj h
  exact ai rfl (qp [B u4])
 have r4:∀r',y4=.inl r'→∀st,FF (c_1,s_2) r' st→(FF (c_1,s_2) r) st:=fun r' e st hq=>by rw[hy41 r' e] at hq;exact hq
 replace h:=hy4
 refine sp 7 h rfl (fun h=>?_) fun h=>?_
 ·refine cq 2 [8,9] [.agg [.isl false (c_1.Parties.map str),.isl false (c_1.Clauses.map aa)],.agg [I s_2.Day,.isl false (s_2.Facts.map str),.isl false (s_2.Duties.map ae),.isl false (s_2.Balances.map I),B s_2.Over]] 129 ?_
  obtain⟨r5,hr5,h⟩:=bS h
  refine oy 145 (B r5) rfl (cP (Xd hr5)) ?_
  refine cq 3 [4] [B r5] 177 ?_
  exact rf [4] [] (j4 _ (Option.some.inj h).symm :)
 ·refine cq 6 [4] [B false] 177 ?_
  exact rf [4] [] (j4 _ (Option.some.inj h).symm :)
theorem SH {G:Go.Ln.Ground}:aH Tryz.prog G 20 DB:=gT 2 0 (aD Q3 (aD QB bf)) (Checked.mixed Tryz.checked) Tryz.func20 (fun a r h=>Ts a.1 a.2 r h)
def Fr:Duty→List V:=oA ae
def FO (r:Bool):V×List V:=(B r,[])
noncomputable def Eq:Ent:=aP [false] Fr FO fun x=>Gw x
theorem XQ {d_1:Duty}{r}(h:Gw d_1=some r):Eq.F (Fr d_1)=some (FO r):=aA (aB cy) h
noncomputable def SS:Code:=ay Tryz.f71
noncomputable def LX:Env:=bC Tryz.prog []
def Tc (x:Duty)(r:Bool):St→Prop:=QF LX Tryz.f71 [false] (Fr x) (FO r)
theorem T8 (d_1:Duty)(r:Bool)(h:Gw d_1=some r):bc LX Tryz.f71 [false] 0 (Fr d_1) (FO r):=by
 show Run _ _ (Tc d_1 r) [.code SS] _
 refine rI 11 [(0,ae d_1)] [] 1 ?_
 unfold Gw at h
 refine ck 11 [1,6] [] [1] [] [.hp 1 0 [] 4 0 0,B (d_1.Status==1)] [some ⟨0,4,[ae d_1]⟩] 97 (by kernel_rfl) ?_
 obtain⟨u2,hu2,h⟩:=lJ h
 have j2:Run LX 0 (Tc d_1 r) (.code (cR (cR SS))::[]) (sT 11 [(2,B u2)] [] 1):=by
  obtain rfl:=Option.some.inj h
  exact ai rfl (qp [B u2])
 replace h:=hu2
 clear hu2
 refine sp 6 h rfl (fun h=>?_) fun h=>?_
 ·refine cq 6 [2] [B true] 177 ?_
  subst h
  exact rf [2] [] (j2 :)
 ·refine cq 6 [2] [B (d_1.Status==3)] 177 ?_
  subst h
  exact rf [2] [] (j2 :)
theorem RN {G:Go.Ln.Ground}:aH Tryz.prog G 71 Eq:=gT 1 0 bf (Checked.mixed Tryz.checked) Tryz.func71 (fun a r h=>T8 a r h)
def C5:((List Duty)×Unit)→List V:=cA (ee ae) (oA (fun x:Unit=>(.fn 71 []:V)))
def Au (r:Int):V×List V:=(I r,[])
noncomputable def yC:Ent:=aP [false,false] C5 Au fun x=>Eo x.1 x.2
theorem U0 {s_1:List Duty}{f_2:Unit}{r}(h:Eo s_1 f_2=some r):yC.F (C5 (s_1,f_2))=some (Au r):=aA (aY (bw cy) (aB (uW ))) h
noncomputable def Mu:Code:=ay Tryz.f138
noncomputable def HJ:Env:=bC Tryz.prog [(71,Eq)]
def Mq (x:(List Duty)×Unit)(r:Int):St→Prop:=QF HJ Tryz.f138 [false,false] (C5 x) (Au r)
theorem JE (s_1:List Duty)(f_2:Unit):b9 HJ 0 (Mq (s_1,f_2)) (cL (cL (cR (cL (cR Mu))))) 0 (qd s_1 f_2) (fun u=>(sT 19 [] [] 1)) fun x3=>(sT 19 [(0,.isl false (s_1.map ae)),(1,.fn 71 []),(7,I (len s_1)),(8,I x3)] [] 1):=dM (wA s_1 f_2) fun {Q K} hK self ih x3 y h hr hn=>by
 unfold ld at h
 refine cq 5 [9] [B (decide (x3<(len s_1)))] 17 ?_
 refine sq h (fun h=>?_) fun h=>?_
 ·refine aq 1 ?_
  refine cq 12 [5,11,12,13] [I x3,.fn 71 [],.isl false (s_1.map ae),I x3] 97 ?_
  obtain⟨e4,he4,h⟩:=bS h
  refine oq 113 (.iptr (ae e4) 0) rfl (an rfl rfl rfl (aM rfl rfl rfl rfl he4)) ?_
  refine cq 1 [15] [ae e4] 129 ?_
  obtain⟨r5,hr5,h⟩:=bS h
  refine oq 145 (B r5) rfl (cP (XQ hr5)) ?_
  refine aq 1 ?_
  refine sq h (fun h=>?_) fun h=>?_
  ·refine cq 5 [4] [I x3] 177 ?_
   exact ai rfl (hr _ (Option.some.inj h).symm _ (qp [I x3]))
  ·refine aq 1 ?_
   refine cq 5 [8] [I (ar (x3+1))] 177 ?_
   refine cE ?_
   exact rf [0,1,7,8] [] (ih _ _ h hr hn :)
 ·refine aq 1 ?_
  exact rf [] [] (hn _ (Option.some.inj h).symm :) (hk:=hK)
theorem Sf (s_1:List Duty)(f_2:Unit)(r:Int)(h:Eo s_1 f_2=some r):bc HJ Tryz.f138 [false,false] 0 (C5 (s_1,f_2)) (Au r):=by
 show Run _ _ (Mq (s_1,f_2) r) [.code Mu] _
 refine rI 19 [(0,.isl false (s_1.map ae)),(1,.fn 71 [])] [] 1 ?_
 unfold Eo at h
 refine cq 8 [6] [.isl false (s_1.map ae)] 33 ?_
 refine oq 49 (I (len s_1)) rfl (aW rfl rfl rfl (bb rfl)) ?_
 refine cq 3 [8] [I (0)] 65 ?_
 obtain⟨y6,hy6,hy61,hy62⟩:=bJ h
 refine bD rfl ?_
 refine rf [0,1,7,8] [] (JE s_1 f_2 rfl 0 _ hy6 (fun r' e st hq=>by rw[hy61 r' e] at hq;exact hq) fun u6 hu=>?_)
 replace h:=hy62 u6 hu
 refine cq 4 [4] [I (-1)] 17 ?_
 obtain rfl:=Option.some.inj h
 exact ai rfl (qp [I (-1)])
theorem MN {G:Go.Ln.Ground}:aH Tryz.prog G 138 yC:=gT 2 0 (aD RN bf) (Checked.mixed Tryz.checked) Tryz.func138 (fun a r h=>Sf a.1 a.2 r h)
def Ac:((List Duty)×Unit)→List V:=cA (ee ae) (oA (fun x:Unit=>(.fn 71 []:V)))
def CA (r:Bool):V×List V:=(B r,[])
noncomputable def xY:Ent:=aP [false,false] Ac CA fun x=>Er x.1 x.2
theorem We {s_1:List Duty}{f_2:Unit}{r}(h:Er s_1 f_2=some r):xY.F (Ac (s_1,f_2))=some (CA r):=aA (aY (bw cy) (aB (uW ))) h
noncomputable def UY:Code:=ay Tryz.f70
noncomputable def Mj:Env:=bC Tryz.prog [(138,yC)]
def U9 (x:(List Duty)×Unit)(r:Bool):St→Prop:=QF Mj Tryz.f70 [false,false] (Ac x) (CA r)
theorem QO (s_1:List Duty)(f_2:Unit)(r:Bool)(h:Er s_1 f_2=some r):bc Mj Tryz.f70 [false,false] 0 (Ac (s_1,f_2)) (CA r):=by
 show Run _ _ (U9 (s_1,f_2) r) [.code UY] _
 refine rI 9 [(0,.isl false (s_1.map ae)),(1,.fn 71 [])] [] 1 ?_
 unfold Er at h
 refine cq 8 [5,6] [.isl false (s_1.map ae),.fn 71 []] 49 ?_
 obtain⟨r3,hr3,h⟩:=bS h
 refine oq 65 (I r3) rfl (cP (U0 hr3)) ?_
 refine cq 3 [4] [B (decide (r3≥0))] 97 ?_
 obtain rfl:=Option.some.inj h
 exact ai rfl (qp [B (decide (r3≥0))])
theorem L7 {G:Go.Ln.Ground}:aH Tryz.prog G 70 xY:=gT 2 0 (aD MN bf) (Checked.mixed Tryz.checked) Tryz.func70 (fun a r h=>QO a.1 a.2 r h)
def Fu:(Contract×State)→List V:=cA aG (oA bH)
def FR (r:Bool×Bool):V×List V:=(.tup [B r.1,B r.2],[])
noncomputable def DW:Ent:=aP [false,false] Fu FR fun x=>Hl x.1 x.2
theorem XB {c_1:Contract}{s_2:State}{r}(h:Hl c_1 s_2=some r):DW.F (Fu (c_1,s_2))=some (FR r):=aA (aY aQ (aB cS)) h
noncomputable def XZ:Code:=ay Tryz.f24
noncomputable def Tk:Env:=bC Tryz.prog [(20,DB),(70,xY)]
def Xa (x:Contract×State)(r:Bool×Bool):St→Prop:=QF Tk Tryz.f24 [false,false] (Fu x) (FR r)
theorem TR (c_1:Contract)(s_2:State)(r:Bool×Bool)(h:Hl c_1 s_2=some r):bc Tk Tryz.f24 [false,false] 0 (Fu (c_1,s_2)) (FR r):=by
 show Run _ _ (Xa (c_1,s_2) r) [.code XZ] _
 refine rI 14 [(0,.agg [.isl false (c_1.Parties.map str),.isl false (c_1.Clauses.map aa)]),(1,.agg [I s_2.Day,.isl false (s_2.Facts.map str),.isl false (s_2.Duties.map ae),.isl false (s_2.Balances.map I),B s_2.Over])] [] 1 ?_
 unfold Hl at h
 refine ck 12 [3,6,7] [] [17] [] [.hp 17 0 [] 5 0 0,.agg [.isl false (c_1.Parties.map str),.isl false (c_1.Clauses.map aa)],.agg [I s_2.Day,.isl false (s_2.Facts.map str),.isl false (s_2.Duties.map ae),.isl false (s_2.Balances.map I),B s_2.Over]] [some ⟨0,5,[.agg [I s_2.Day,.isl false (s_2.Facts.map str),.isl false (s_2.Duties.map ae),.isl false (s_2.Balances.map I),B s_2.Over]]⟩] 97 (by kernel_rfl) ?_
 obtain⟨r3,hr3,h⟩:=bS h
 refine oq 113 (B r3) rfl (cP (X0 hr3)) ?_
 refine cq 2 [9] [B (!r3)] 129 ?_
 refine sq h (fun h=>?_) fun h=>?_
 ·refine cq 5 [4,5] [B false,B false] 161 ?_
  obtain rfl:=Option.some.inj h
  exact ai rfl (qp [B false,B false])
 ·refine aq 1 ?_
  refine cq 4 [11] [.isl false (s_2.Duties.map ae)] 161 ?_
  obtain⟨r4,hr4,h⟩:=bS h
  refine oq 177 (B r4) rfl (cP (We hr4)) ?_
  refine cq 4 [4,5] [B (!r4),B true] 225 ?_
  obtain rfl:=Option.some.inj h
  exact ai rfl (qp [B (!r4),B true])
theorem Rp {G:Go.Ln.Ground}:aH Tryz.prog G 24 DW:=gT 2 0 (aD SH (aD L7 bf)) (Checked.mixed Tryz.checked) Tryz.func24 (fun a r h=>TR a.1 a.2 r h)
def Dj:((List ah)×(List ah))→List V:=cA (ee str) (oA (ee str))
def C9 (r:Bool):V×List V:=(B r,[])
noncomputable def rn:Ent:=aP [false,false] Dj C9 fun x=>ug x.1 x.2
theorem Mf {a_1:List ah}{b_2:List ah}{r}(h:ug a_1 b_2=some r):rn.F (Dj (a_1,b_2))=some (C9 r):=aA (aY (bw bm) (aB (bw bm))) h
noncomputable def Oe:Code:=ay Tryz.f67
noncomputable def HZ:Env:=bC Tryz.prog []
def MZ (x:(List ah)×(List ah))(r:Bool):St→Prop:=QF HZ Tryz.f67 [false,false] (Dj x) (C9 r)
theorem Jr (a_1:List ah)(b_2:List ah):b9 HZ 0 (MZ (a_1,b_2)) (cL (cL (cR (cL (cR (cR Oe)))))) 0 (qB a_1 b_2) (fun u=>(sT 26 [] [] 1)) fun x3=>(sT 26 [(0,.isl false (a_1.map str)),(1,.isl false (b_2.map str)),(5,I x3)] [] 1):=dM (vz a_1 b_2) fun {Q K} hK self ih x3 y h hr hn=>by
 unfold lm at h
 refine cq 5 [11,12] [I x3,.isl false (a_1.map str)] 33 ?_
 refine oq 49 (I (len a_1)) rfl (aW rfl rfl rfl (bb rfl)) ?_
 refine cq 2 [14] [B (decide (x3<(len a_1)))] 65 ?_
 refine sq h (fun h=>?_) fun h=>?_
 ·refine aq 1 ?_
  refine aq 3 ?_
  refine d7 [0,0,3,7,0,0,48,112,255] rfl (by decide +kernel) ?_
  refine dk 2 [18,17] [I x3,.isl false (a_1.map str)] ?_
  obtain⟨e4,he4,h⟩:=bS h
  refine dq [] [] (.iptr (str e4) 0) rfl (an rfl rfl rfl (aM rfl rfl rfl rfl he4)) ?_
  refine dq [] [] (str e4) rfl (aO rfl rfl) ?_
  refine dk 2 [22,21] [I x3,.isl false (b_2.map str)] ?_
  obtain⟨e5,he5,h⟩:=bS h
  refine dq [] [] (.iptr (str e5) 0) rfl (an rfl rfl rfl (aM rfl rfl rfl rfl he5)) ?_
  refine dq [] [] (str e5) rfl (aO rfl rfl) ?_
  refine dk 1 [25] [B (!(e4==e5))] ?_
  refine de 209 rfl rfl ?_
  refine sq h (fun h=>?_) fun h=>?_
  ·refine cq 4 [4] [B false] 225 ?_
   exact ai rfl (hr _ (Option.some.inj h).symm _ (qp [B false]))
  ·refine aq 1 ?_
   refine cq 6 [5] [I (ar (x3+1))] 257 ?_
   refine cE ?_
   exact rf [0,1,5] [] (ih _ _ h hr hn :)
 ·refine aq 1 ?_
  exact rf [] [] (hn _ (Option.some.inj h).symm :) (hk:=hK)
theorem RB (a_1:List ah)(b_2:List ah)(r:Bool)(h:ug a_1 b_2=some r):bc HZ Tryz.f67 [false,false] 0 (Dj (a_1,b_2)) (C9 r):=by
 show Run _ _ (MZ (a_1,b_2) r) [.code Oe] _
 refine rI 26 [(0,.isl false (a_1.map str)),(1,.isl false (b_2.map str))] [] 1 ?_
 unfold ug at h
 refine cq 8 [6] [.isl false (a_1.map str)] 33 ?_
 refine oq 49 (I (len a_1)) rfl (aW rfl rfl rfl (bb rfl)) ?_
 refine cq 1 [8] [.isl false (b_2.map str)] 65 ?_
 refine oq 81 (I (len b_2)) rfl (aW rfl rfl rfl (bb rfl)) ?_
 refine cq 2 [10] [B ((len a_1) != (len b_2))] 97 ?_
 refine sq h (fun h=>?_) fun h=>?_
 ·refine cq 4 [4] [B false] 113 ?_
  obtain rfl:=Option.some.inj h
  exact ai rfl (qp [B false])
 ·refine aq 1 ?_
  refine cq 6 [5] [I (0)] 113 ?_
  obtain⟨y6,hy6,hy61,hy62⟩:=bJ h
  refine bD rfl ?_
  refine rf [0,1,5] [] (Jr a_1 b_2 rfl 0 _ hy6 (fun r' e st hq=>by rw[hy61 r' e] at hq;exact hq) fun u6 hu=>?_)
  replace h:=hy62 u6 hu
  refine cq 4 [4] [B true] 17 ?_
  obtain rfl:=Option.some.inj h
  exact ai rfl (qp [B true])
theorem E3 {G:Go.Ln.Ground}:aH Tryz.prog G 67 rn:=gT 2 0 bf (Checked.mixed Tryz.checked) Tryz.func67 (fun a r h=>RB a.1 a.2 r h)
def uR:(Condition×Condition)→List V:=cA aU (oA aU)
def ua (r:Bool):V×List V:=(B r,[])
noncomputable def pA (slf_Ffbe:(Condition×Condition)→Option Bool):Ent:=aP [false,false] uR ua slf_Ffbe
theorem Ek (slf_Ffbe:(Condition×Condition)→Option Bool){x}{r}(h:slf_Ffbe x=some r):(pA slf_Ffbe).F (uR x)=some (ua r):=aA (aY cf (aB cf)) h
def zE:((List Condition)×(List Condition))→List V:=cA (ee ac) (oA (ee ac))
def C7 (r:Bool):V×List V:=(B r,[])
noncomputable def yb (slf_Ffbe:(Condition×Condition)→Option Bool):Ent:=aP [false,false] zE C7 fun x=>tC slf_Ffbe x.1 x.2
theorem WL (slf_Ffbe:(Condition×Condition)→Option Bool){a_1:List Condition}{b_2:List Condition}{r}(h:tC slf_Ffbe a_1 b_2=some r):(yb slf_Ffbe).F (zE (a_1,b_2))=some (C7 r):=aA (aY (bw dW) (aB (bw dW))) h
noncomputable def P6:Code:=ay Tryz.f223
noncomputable def Gy (slf_Ffbe:(Condition×Condition)→Option Bool):Env:=bC Tryz.prog [(193,(pA slf_Ffbe))]
def Nj (slf_Ffbe:(Condition×Condition)→Option Bool)(x:(List Condition)×(List Condition))(r:Bool):St→Prop:=QF (Gy slf_Ffbe) Tryz.f223 [false,false] (zE x) (C7 r)
theorem I5 (slf_Ffbe:(Condition×Condition)→Option Bool)(a_1:List Condition)(b_2:List Condition):b9 (Gy slf_Ffbe) 0 (Nj slf_Ffbe (a_1,b_2)) (cL (cL (cR (cL (cR (cR P6)))))) 0 (ob slf_Ffbe a_1 b_2) (fun u=>(sT 27 [] [] 1)) fun x3=>(sT 27 [(0,.isl false (a_1.map ac)),(1,.isl false (b_2.map ac)),(5,I x3)] [] 1):=dM (wb slf_Ffbe a_1 b_2) fun {Q K} hK self ih x3 y h hr hn=>by
 unfold jE at h
 refine cq 5 [11,12] [I x3,.isl false (a_1.map ac)] 33 ?_
 refine oq 49 (I (len a_1)) rfl (aW rfl rfl rfl (bb rfl)) ?_
 refine cq 2 [14] [B (decide (x3<(len a_1)))] 65 ?_
 refine sq h (fun h=>?_) fun h=>?_
 ·refine aq 1 ?_
  refine aq 3 ?_
  refine d7 [0,0,3,7,0,0,48,112,255,511] rfl (by decide +kernel) ?_
  refine dk 2 [18,17] [I x3,.isl false (a_1.map ac)] ?_
  obtain⟨e4,he4,h⟩:=bS h
  refine dq [] [] (.iptr (.agg [I e4.Op,str e4.Name,I e4.Day,.isl false (e4.Parts.map ac)]) 0) rfl (an rfl rfl rfl (aM rfl rfl (ce e4) rfl he4)) ?_
  refine dq [] [] (.agg [I e4.Op,str e4.Name,I e4.Day,.isl false (e4.Parts.map ac)]) rfl (aO rfl rfl) ?_
  refine dk 2 [22,21] [I x3,.isl false (b_2.map ac)] ?_
  obtain⟨e5,he5,h⟩:=bS h
  refine dq [] [] (.iptr (.agg [I e5.Op,str e5.Name,I e5.Day,.isl false (e5.Parts.map ac)]) 0) rfl (an rfl rfl rfl (aM rfl rfl (ce e5) rfl he5)) ?_
  refine dq [] [] (.agg [I e5.Op,str e5.Name,I e5.Day,.isl false (e5.Parts.map ac)]) rfl (aO rfl rfl) ?_
  obtain⟨r6,hr6,h⟩:=bS h
  refine dq [] [] (B r6) rfl (co rfl rfl (cM rfl rfl rfl (ca (cT rfl) (ca (cT rfl) dD)) (Ek slf_Ffbe hr6) (.inr rfl) ec rfl rfl rfl)) ?_ (dj rfl rfl rfl rfl (ca (cT rfl) (ca (cT rfl) dD)) (Ek slf_Ffbe hr6) (.inr rfl) rfl)
  refine dk 1 [26] [B (!r6)] ?_
  refine de 225 rfl rfl ?_
  refine sq h (fun h=>?_) fun h=>?_
  ·refine cq 4 [4] [B false] 241 ?_
   exact ai rfl (hr _ (Option.some.inj h).symm _ (qp [B false]))
  ·refine aq 1 ?_
   refine cq 6 [5] [I (ar (x3+1))] 273 ?_
   refine cE ?_
   exact rf [0,1,5] [] (ih _ _ h hr hn :)
 ·refine aq 1 ?_
  exact rf [] [] (hn _ (Option.some.inj h).symm :) (hk:=hK)
theorem QR (slf_Ffbe:(Condition×Condition)→Option Bool)(a_1:List Condition)(b_2:List Condition)(r:Bool)(h:tC slf_Ffbe a_1 b_2=some r):bc (Gy slf_Ffbe) Tryz.f223 [false,false] 0 (zE (a_1,b_2)) (C7 r):=by
 show Run _ _ (Nj slf_Ffbe (a_1,b_2) r) [.code P6] _
 refine rI 27 [(0,.isl false (a_1.map ac)),(1,.isl false (b_2.map ac))] [] 1 ?_
 unfold tC at h
 refine cq 8 [6] [.isl false (a_1.map ac)] 33 ?_
 refine oq 49 (I (len a_1)) rfl (aW rfl rfl rfl (bb rfl)) ?_
 refine cq 1 [8] [.isl false (b_2.map ac)] 65 ?_
 refine oq 81 (I (len b_2)) rfl (aW rfl rfl rfl (bb rfl)) ?_
 refine cq 2 [10] [B ((len a_1) != (len b_2))] 97 ?_
 refine sq h (fun h=>?_) fun h=>?_
 ·refine cq 4 [4] [B false] 113 ?_
  obtain rfl:=Option.some.inj h
  exact ai rfl (qp [B false])
 ·refine aq 1 ?_
  refine cq 6 [5] [I (0)] 113 ?_
  obtain⟨y7,hy7,hy71,hy72⟩:=bJ h
  refine bD rfl ?_
  refine rf [0,1,5] [] (I5 slf_Ffbe a_1 b_2 rfl 0 _ hy7 (fun r' e st hq=>by rw[hy71 r' e] at hq;exact hq) fun u7 hu=>?_)
  replace h:=hy72 u7 hu
  refine cq 4 [4] [B true] 17 ?_
  obtain rfl:=Option.some.inj h
  exact ai rfl (qp [B true])
theorem O3 {G:Go.Ln.Ground}(slf_Ffbe:(Condition×Condition)→Option Bool)(g_Ffbe:aH Tryz.prog G 193 (pA slf_Ffbe)):aH Tryz.prog G 223 (yb slf_Ffbe):=gT 2 0 (aD g_Ffbe bf) (Checked.mixed Tryz.checked) Tryz.func223 (fun a r h=>QR slf_Ffbe a.1 a.2 r h)
noncomputable def yL:Ent:=pA (aJ nm)
theorem US {a_1:Condition}{b_2:Condition}{r}(h:xX a_1 b_2=some r):yL.F (uR (a_1,b_2))=some (ua r):=Ek (aJ nm) h
noncomputable def VW:Code:=ay Tryz.f193
noncomputable def O8 (slf_Ffbe:(Condition×Condition)→Option Bool):Env:=bC Tryz.prog [(223,(yb slf_Ffbe))]
def Vq (slf_Ffbe:(Condition×Condition)→Option Bool)(x:Condition×Condition)(r:Bool):St→Prop:=QF (O8 slf_Ffbe) Tryz.f193 [false,false] (uR x) (ua r)
theorem RV (slf_Ffbe:(Condition×Condition)→Option Bool)(a_1:Condition)(b_2:Condition)(r:Bool)(h:qL slf_Ffbe a_1 b_2=some r):bc (O8 slf_Ffbe) Tryz.f193 [false,false] 0 (uR (a_1,b_2)) (ua r):=by
 show Run _ _ (Vq slf_Ffbe (a_1,b_2) r) [.code VW] _
 refine rI 26 [(0,.agg [I a_1.Op,str a_1.Name,I a_1.Day,.isl false (a_1.Parts.map ac)]),(1,.agg [I b_2.Op,str b_2.Name,I b_2.Day,.isl false (b_2.Parts.map ac)])] [] 1 ?_
 unfold qL at h
 refine ck 15 [2,3,9] [] [1,17] [] [.hp 1 0 [] 4 0 0,.hp 17 0 [] 4 0 0,B (a_1.Op != b_2.Op)] [some ⟨0,4,[.agg [I a_1.Op,str a_1.Name,I a_1.Day,.isl false (a_1.Parts.map ac)]]⟩,some ⟨0,4,[.agg [I b_2.Op,str b_2.Name,I b_2.Day,.isl false (b_2.Parts.map ac)]]⟩] 129 (by kernel_rfl) ?_
 refine sq h (fun h=>?_) fun h=>?_
 ·refine cq 4 [4] [B false] 145 ?_
  obtain rfl:=Option.some.inj h
  exact ai rfl (qp [B false])
 ·refine aq 1 ?_
  refine cq 9 [14] [B (!(a_1.Name==b_2.Name))] 209 ?_
  refine sq h (fun h=>?_) fun h=>?_
  ·refine cq 4 [4] [B false] 225 ?_
   obtain rfl:=Option.some.inj h
   exact ai rfl (qp [B false])
  ·refine aq 1 ?_
   refine cq 9 [19] [B (a_1.Day != b_2.Day)] 289 ?_
   refine sq h (fun h=>?_) fun h=>?_
   ·refine cq 4 [4] [B false] 305 ?_
    obtain rfl:=Option.some.inj h
    exact ai rfl (qp [B false])
   ·refine aq 1 ?_
    refine cq 7 [21,23] [.isl false (a_1.Parts.map ac),.isl false (b_2.Parts.map ac)] 353 ?_
    obtain⟨r3,hr3,h⟩:=bS h
    refine oq 369 (B r3) rfl (co rfl rfl (cM rfl rfl rfl (ca (cT rfl) (ca (cT rfl) dD)) (WL slf_Ffbe hr3) (.inr rfl) ec rfl rfl rfl)) ?_
    refine cq 2 [25] [B (!r3)] 385 ?_
    refine sq h (fun h=>?_) fun h=>?_
    ·refine cq 4 [4] [B false] 401 ?_
     obtain rfl:=Option.some.inj h
     exact ai rfl (qp [B false])
    ·refine aq 1 ?_
     refine cq 4 [4] [B true] 401 ?_
     obtain rfl:=Option.some.inj h
     exact ai rfl (qp [B true])
theorem OC {G:Go.Ln.Ground}:aH Tryz.prog G 193 yL:=jy fun slf_Ffbe g_Ffbe=>gT 2 0 (aD (O3 slf_Ffbe g_Ffbe) bf) (Checked.mixed Tryz.checked) Tryz.func193 (fun a r h=>RV slf_Ffbe a.1 a.2 r h)
def zF:(Clause×Clause)→List V:=cA aa (oA aa)
def CM (r:Bool):V×List V:=(B r,[])
noncomputable def xf:Ent:=aP [false,false] zF CM fun x=>uK x.1 x.2
theorem Oj {a_1:Clause}{b_2:Clause}{r}(h:uK a_1 b_2=some r):xf.F (zF (a_1,b_2))=some (CM r):=aA (aY cp (aB cp)) h
noncomputable def V9:Code:=ay Tryz.f136
noncomputable def Nt:Env:=bC Tryz.prog [(193,yL)]
def WA (x:Clause×Clause)(r:Bool):St→Prop:=QF Nt Tryz.f136 [false,false] (zF x) (CM r)
theorem R6 (a_1:Clause)(b_2:Clause)(r:Bool)(h:uK a_1 b_2=some r):bc Nt Tryz.f136 [false,false] 0 (zF (a_1,b_2)) (CM r):=by
 show Run _ _ (WA (a_1,b_2) r) [.code V9] _
 refine rI 51 [(0,.agg [str a_1.Id,I a_1.Kind,I a_1.Party,str a_1.Action,I a_1.Other,I a_1.Amount,I a_1.When.Op,str a_1.When.Name,I a_1.When.Day,.isl false (a_1.When.Parts.map ac),I a_1.Within,str a_1.Repair]),(1,.agg [str b_2.Id,I b_2.Kind,I b_2.Party,str b_2.Action,I b_2.Other,I b_2.Amount,I b_2.When.Op,str b_2.When.Name,I b_2.When.Day,.isl false (b_2.When.Parts.map ac),I b_2.Within,str b_2.Repair])] [] 1 ?_
 unfold uK at h
 refine ck 15 [2,3,9] [] [1,17] [] [.hp 1 0 [] 12 0 0,.hp 17 0 [] 12 0 0,B (!(a_1.Id==b_2.Id))] [some ⟨0,12,[.agg [str a_1.Id,I a_1.Kind,I a_1.Party,str a_1.Action,I a_1.Other,I a_1.Amount,I a_1.When.Op,str a_1.When.Name,I a_1.When.Day,.isl false (a_1.When.Parts.map ac),I a_1.Within,str a_1.Repair]]⟩,some ⟨0,12,[.agg [str b_2.Id,I b_2.Kind,I b_2.Party,str b_2.Action,I b_2.Other,I b_2.Amount,I b_2.When.Op,str b_2.When.Name,I b_2.When.Day,.isl false (b_2.When.Parts.map ac),I b_2.Within,str b_2.Repair]]⟩] 129 (by kernel_rfl) ?_
 refine sq h (fun h=>?_) fun h=>?_
 ·refine cq 4 [4] [B false] 145 ?_
  obtain rfl:=Option.some.inj h
  exact ai rfl (qp [B false])
 ·refine aq 1 ?_
  refine cq 9 [14] [B (a_1.Kind != b_2.Kind)] 209 ?_
  refine sq h (fun h=>?_) fun h=>?_
  ·refine cq 4 [4] [B false] 225 ?_
   obtain rfl:=Option.some.inj h
   exact ai rfl (qp [B false])
  ·refine aq 1 ?_
   refine cq 9 [19] [B (a_1.Party != b_2.Party)] 289 ?_
   refine sq h (fun h=>?_) fun h=>?_
   ·refine cq 4 [4] [B false] 305 ?_
    obtain rfl:=Option.some.inj h
    exact ai rfl (qp [B false])
   ·refine aq 1 ?_
    refine cq 9 [24] [B (!(a_1.Action==b_2.Action))] 369 ?_
    refine sq h (fun h=>?_) fun h=>?_
    ·refine cq 4 [4] [B false] 385 ?_
     obtain rfl:=Option.some.inj h
     exact ai rfl (qp [B false])
    ·refine aq 1 ?_
     refine cq 9 [29] [B (a_1.Other != b_2.Other)] 449 ?_
     refine sq h (fun h=>?_) fun h=>?_
     ·refine cq 4 [4] [B false] 465 ?_
      obtain rfl:=Option.some.inj h
      exact ai rfl (qp [B false])
     ·refine aq 1 ?_
      refine cq 9 [34] [B (a_1.Amount != b_2.Amount)] 529 ?_
      refine sq h (fun h=>?_) fun h=>?_
      ·refine cq 4 [4] [B false] 545 ?_
       obtain rfl:=Option.some.inj h
       exact ai rfl (qp [B false])
      ·refine aq 1 ?_
       refine cq 7 [36,38] [.agg [I a_1.When.Op,str a_1.When.Name,I a_1.When.Day,.isl false (a_1.When.Parts.map ac)],.agg [I b_2.When.Op,str b_2.When.Name,I b_2.When.Day,.isl false (b_2.When.Parts.map ac)]] 593 ?_
       obtain⟨r3,hr3,h⟩:=bS h
       refine oq 609 (B r3) rfl (cP (US hr3)) ?_
       refine cq 2 [40] [B (!r3)] 625 ?_
       refine sq h (fun h=>?_) fun h=>?_
       ·refine cq 4 [4] [B false] 641 ?_
        obtain rfl:=Option.some.inj h
        exact ai rfl (qp [B false])
       ·refine aq 1 ?_
        refine cq 9 [45] [B (a_1.Within != b_2.Within)] 705 ?_
        refine sq h (fun h=>?_) fun h=>?_
        ·refine cq 4 [4] [B false] 721 ?_
         obtain rfl:=Option.some.inj h
         exact ai rfl (qp [B false])
        ·refine aq 1 ?_
         refine cq 9 [50] [B (!(a_1.Repair==b_2.Repair))] 785 ?_
         refine sq h (fun h=>?_) fun h=>?_
         ·refine cq 4 [4] [B false] 801 ?_
          obtain rfl:=Option.some.inj h
          exact ai rfl (qp [B false])
         ·refine aq 1 ?_
          refine cq 4 [4] [B true] 801 ?_
          obtain rfl:=Option.some.inj h
          exact ai rfl (qp [B true])
theorem Me {G:Go.Ln.Ground}:aH Tryz.prog G 136 xf:=gT 2 0 (aD OC bf) (Checked.mixed Tryz.checked) Tryz.func136 (fun a r h=>R6 a.1 a.2 r h)
def Bz:((List Clause)×(List Clause))→List V:=cA (ee aa) (oA (ee aa))
def B5 (r:Bool):V×List V:=(B r,[])
noncomputable def xS:Ent:=aP [false,false] Bz B5 fun x=>yV x.1 x.2
theorem W2 {a_1:List Clause}{b_2:List Clause}{r}(h:yV a_1 b_2=some r):xS.F (Bz (a_1,b_2))=some (B5 r):=aA (aY (bw cp) (aB (bw cp))) h
noncomputable def P7:Code:=ay Tryz.f68
noncomputable def G8:Env:=bC Tryz.prog [(136,xf)]
def O6 (x:(List Clause)×(List Clause))(r:Bool):St→Prop:=QF G8 Tryz.f68 [false,false] (Bz x) (B5 r)
theorem I3 (a_1:List Clause)(b_2:List Clause):b9 G8 0 (O6 (a_1,b_2)) (cL (cL (cR (cL (cR (cR P7)))))) 0 (qe a_1 b_2) (fun u=>(sT 27 [] [] 1)) fun x3=>(sT 27 [(0,.isl false (a_1.map aa)),(1,.isl false (b_2.map aa)),(5,I x3)] [] 1):=dM (vI a_1 b_2) fun {Q K} hK self ih x3 y h hr hn=>by
 unfold lw at h
 refine cq 5 [11,12] [I x3,.isl false (a_1.map aa)] 33 ?_
 refine oq 49 (I (len a_1)) rfl (aW rfl rfl rfl (bb rfl)) ?_
 refine cq 2 [14] [B (decide (x3<(len a_1)))] 65 ?_
 refine sq h (fun h=>?_) fun h=>?_
 ·refine aq 1 ?_
  refine aq 3 ?_
  refine d7 [0,0,3,7,0,0,48,112,255,511] rfl (by decide +kernel) ?_
  refine dk 2 [18,17] [I x3,.isl false (a_1.map aa)] ?_
  obtain⟨e4,he4,h⟩:=bS h
  refine dq [] [] (.iptr (.agg [str e4.Id,I e4.Kind,I e4.Party,str e4.Action,I e4.Other,I e4.Amount,I e4.When.Op,str e4.When.Name,I e4.When.Day,.isl false (e4.When.Parts.map ac),I e4.Within,str e4.Repair]) 0) rfl (an rfl rfl rfl (aM rfl rfl rfl rfl he4)) ?_
  refine dq [] [] (.agg [str e4.Id,I e4.Kind,I e4.Party,str e4.Action,I e4.Other,I e4.Amount,I e4.When.Op,str e4.When.Name,I e4.When.Day,.isl false (e4.When.Parts.map ac),I e4.Within,str e4.Repair]) rfl (aO rfl rfl) ?_
  refine dk 2 [22,21] [I x3,.isl false (b_2.map aa)] ?_
  obtain⟨e5,he5,h⟩:=bS h
  refine dq [] [] (.iptr (.agg [str e5.Id,I e5.Kind,I e5.Party,str e5.Action,I e5.Other,I e5.Amount,I e5.When.Op,str e5.When.Name,I e5.When.Day,.isl false (e5.When.Parts.map ac),I e5.Within,str e5.Repair]) 0) rfl (an rfl rfl rfl (aM rfl rfl rfl rfl he5)) ?_
  refine dq [] [] (.agg [str e5.Id,I e5.Kind,I e5.Party,str e5.Action,I e5.Other,I e5.Amount,I e5.When.Op,str e5.When.Name,I e5.When.Day,.isl false (e5.When.Parts.map ac),I e5.Within,str e5.Repair]) rfl (aO rfl rfl) ?_
  obtain⟨r6,hr6,h⟩:=bS h
  refine dq [] [] (B r6) rfl (cP (Oj hr6)) ?_ (dj rfl rfl rfl rfl (ca (cT rfl) (ca (cT rfl) dD)) (Oj hr6) (.inr rfl) rfl)
  refine dk 1 [26] [B (!r6)] ?_
  refine de 225 rfl rfl ?_
  refine sq h (fun h=>?_) fun h=>?_
  ·refine cq 4 [4] [B false] 241 ?_
   exact ai rfl (hr _ (Option.some.inj h).symm _ (qp [B false]))
  ·refine aq 1 ?_
   refine cq 6 [5] [I (ar (x3+1))] 273 ?_
   refine cE ?_
   exact rf [0,1,5] [] (ih _ _ h hr hn :)
 ·refine aq 1 ?_
  exact rf [] [] (hn _ (Option.some.inj h).symm :) (hk:=hK)
theorem Sv (a_1:List Clause)(b_2:List Clause)(r:Bool)(h:yV a_1 b_2=some r):bc G8 Tryz.f68 [false,false] 0 (Bz (a_1,b_2)) (B5 r):=by
 show Run _ _ (O6 (a_1,b_2) r) [.code P7] _
 refine rI 27 [(0,.isl false (a_1.map aa)),(1,.isl false (b_2.map aa))] [] 1 ?_
 unfold yV at h
 refine cq 8 [6] [.isl false (a_1.map aa)] 33 ?_
 refine oq 49 (I (len a_1)) rfl (aW rfl rfl rfl (bb rfl)) ?_
 refine cq 1 [8] [.isl false (b_2.map aa)] 65 ?_
 refine oq 81 (I (len b_2)) rfl (aW rfl rfl rfl (bb rfl)) ?_
 refine cq 2 [10] [B ((len a_1) != (len b_2))] 97 ?_
 refine sq h (fun h=>?_) fun h=>?_
 ·refine cq 4 [4] [B false] 113 ?_
  obtain rfl:=Option.some.inj h
  exact ai rfl (qp [B false])
 ·refine aq 1 ?_
  refine cq 6 [5] [I (0)] 113 ?_
  obtain⟨y7,hy7,hy71,hy72⟩:=bJ h
  refine bD rfl ?_
  refine rf [0,1,5] [] (I3 a_1 b_2 rfl 0 _ hy7 (fun r' e st hq=>by rw[hy71 r' e] at hq;exact hq) fun u7 hu=>?_)
  replace h:=hy72 u7 hu
  refine cq 4 [4] [B true] 17 ?_
  obtain rfl:=Option.some.inj h
  exact ai rfl (qp [B true])
theorem OQ {G:Go.Ln.Ground}:aH Tryz.prog G 68 xS:=gT 2 0 (aD Me bf) (Checked.mixed Tryz.checked) Tryz.func68 (fun a r h=>Sv a.1 a.2 r h)
def BM:(Contract×Contract)→List V:=cA aG (oA aG)
def Ao (r:Bool):V×List V:=(B r,[])
noncomputable def xh:Ent:=aP [false,false] BM Ao fun x=>yD x.1 x.2
theorem Pu {a_1:Contract}{b_2:Contract}{r}(h:yD a_1 b_2=some r):xh.F (BM (a_1,b_2))=some (Ao r):=aA (aY aQ (aB aQ)) h
noncomputable def WI:Code:=ay Tryz.f21
noncomputable def P1:Env:=bC Tryz.prog [(67,rn),(68,xS)]
def WS (x:Contract×Contract)(r:Bool):St→Prop:=QF P1 Tryz.f21 [false,false] (BM x) (Ao r)
theorem QD (a_1:Contract)(b_2:Contract)(r:Bool)(h:yD a_1 b_2=some r):bc P1 Tryz.f21 [false,false] 0 (BM (a_1,b_2)) (Ao r):=by
 show Run _ _ (WS (a_1,b_2) r) [.code WI] _
 refine rI 17 [(0,.agg [.isl false (a_1.Parties.map str),.isl false (a_1.Clauses.map aa)]),(1,.agg [.isl false (b_2.Parties.map str),.isl false (b_2.Clauses.map aa)])] [] 1 ?_
 unfold yD at h
 refine ck 13 [2,3,6,8] [] [1,17] [] [.hp 1 0 [] 2 0 0,.hp 17 0 [] 2 0 0,.isl false (a_1.Parties.map str),.isl false (b_2.Parties.map str)] [some ⟨0,2,[.agg [.isl false (a_1.Parties.map str),.isl false (a_1.Clauses.map aa)]]⟩,some ⟨0,2,[.agg [.isl false (b_2.Parties.map str),.isl false (b_2.Clauses.map aa)]]⟩] 113 (by kernel_rfl) ?_
 obtain⟨r3,hr3,h⟩:=bS h
 refine oq 129 (B r3) rfl (cP (Mf hr3)) ?_
 refine cq 2 [10] [B (!r3)] 145 ?_
 refine sq h (fun h=>?_) fun h=>?_
 ·refine cq 4 [4] [B false] 161 ?_
  obtain rfl:=Option.some.inj h
  exact ai rfl (qp [B false])
 ·refine aq 1 ?_
  refine cq 7 [12,14] [.isl false (a_1.Clauses.map aa),.isl false (b_2.Clauses.map aa)] 209 ?_
  obtain⟨r4,hr4,h⟩:=bS h
  refine oq 225 (B r4) rfl (cP (W2 hr4)) ?_
  refine cq 2 [16] [B (!r4)] 241 ?_
  refine sq h (fun h=>?_) fun h=>?_
  ·refine cq 4 [4] [B false] 257 ?_
   obtain rfl:=Option.some.inj h
   exact ai rfl (qp [B false])
  ·refine aq 1 ?_
   refine cq 4 [4] [B true] 257 ?_
   obtain rfl:=Option.some.inj h
   exact ai rfl (qp [B true])
theorem Mh {G:Go.Ln.Ground}:aH Tryz.prog G 21 xh:=gT 2 0 (aD E3 (aD OQ bf)) (Checked.mixed Tryz.checked) Tryz.func21 (fun a r h=>QD a.1 a.2 r h)
def CH:(Duty×Duty)→List V:=cA ae (oA ae)
def Db (r:Bool):V×List V:=(B r,[])
noncomputable def xn:Ent:=aP [false,false] CH Db fun x=>tL x.1 x.2
theorem Pa {a_1:Duty}{b_2:Duty}{r}(h:tL a_1 b_2=some r):xn.F (CH (a_1,b_2))=some (Db r):=aA (aY cy (aB cy)) h
noncomputable def WO:Code:=ay Tryz.f137
noncomputable def MJ:Env:=bC Tryz.prog []
def Vo (x:Duty×Duty)(r:Bool):St→Prop:=QF MJ Tryz.f137 [false,false] (CH x) (Db r)
theorem Sj (a_1:Duty)(b_2:Duty)(r:Bool)(h:tL a_1 b_2=some r):bc MJ Tryz.f137 [false,false] 0 (CH (a_1,b_2)) (Db r):=by
 show Run _ _ (Vo (a_1,b_2) r) [.code WO] _
 refine rI 25 [(0,ae a_1),(1,ae b_2)] [] 1 ?_
 unfold tL at h
 refine ck 15 [2,3,9] [] [1,17] [] [.hp 1 0 [] 4 0 0,.hp 17 0 [] 4 0 0,B (a_1.Clause != b_2.Clause)] [some ⟨0,4,[ae a_1]⟩,some ⟨0,4,[ae b_2]⟩] 129 (by kernel_rfl) ?_
 refine sq h (fun h=>?_) fun h=>?_
 ·refine cq 4 [4] [B false] 145 ?_
  obtain rfl:=Option.some.inj h
  exact ai rfl (qp [B false])
 ·refine aq 1 ?_
  refine cq 9 [14] [B (a_1.Since != b_2.Since)] 209 ?_
  refine sq h (fun h=>?_) fun h=>?_
  ·refine cq 4 [4] [B false] 225 ?_
   obtain rfl:=Option.some.inj h
   exact ai rfl (qp [B false])
  ·refine aq 1 ?_
   refine cq 9 [19] [B (a_1.Due != b_2.Due)] 289 ?_
   refine sq h (fun h=>?_) fun h=>?_
   ·refine cq 4 [4] [B false] 305 ?_
    obtain rfl:=Option.some.inj h
    exact ai rfl (qp [B false])
   ·refine aq 1 ?_
    refine cq 9 [24] [B (a_1.Status != b_2.Status)] 369 ?_
    refine sq h (fun h=>?_) fun h=>?_
    ·refine cq 4 [4] [B false] 385 ?_
     obtain rfl:=Option.some.inj h
     exact ai rfl (qp [B false])
    ·refine aq 1 ?_
     refine cq 4 [4] [B true] 385 ?_
     obtain rfl:=Option.some.inj h
     exact ai rfl (qp [B true])
theorem N6 {G:Go.Ln.Ground}:aH Tryz.prog G 137 xn:=gT 2 0 bf (Checked.mixed Tryz.checked) Tryz.func137 (fun a r h=>Sj a.1 a.2 r h)
def Cb:((List Duty)×(List Duty))→List V:=cA (ee ae) (oA (ee ae))
def Ae (r:Bool):V×List V:=(B r,[])
noncomputable def yx:Ent:=aP [false,false] Cb Ae fun x=>yB x.1 x.2
theorem Wz {a_1:List Duty}{b_2:List Duty}{r}(h:yB a_1 b_2=some r):yx.F (Cb (a_1,b_2))=some (Ae r):=aA (aY (bw cy) (aB (bw cy))) h
noncomputable def Pw:Code:=ay Tryz.f69
noncomputable def GV:Env:=bC Tryz.prog [(137,xn)]
def OD (x:(List Duty)×(List Duty))(r:Bool):St→Prop:=QF GV Tryz.f69 [false,false] (Cb x) (Ae r)
theorem I1 (a_1:List Duty)(b_2:List Duty):b9 GV 0 (OD (a_1,b_2)) (cL (cL (cR (cL (cR (cR Pw)))))) 0 (qV a_1 b_2) (fun u=>(sT 27 [] [] 1)) fun x3=>(sT 27 [(0,.isl false (a_1.map ae)),(1,.isl false (b_2.map ae)),(5,I x3)] [] 1):=dM (wG a_1 b_2) fun {Q K} hK self ih x3 y h hr hn=>by
 unfold lj at h
 refine cq 5 [11,12] [I x3,.isl false (a_1.map ae)] 33 ?_
 refine oq 49 (I (len a_1)) rfl (aW rfl rfl rfl (bb rfl)) ?_
 refine cq 2 [14] [B (decide (x3<(len a_1)))] 65 ?_
 refine sq h (fun h=>?_) fun h=>?_
 ·refine aq 1 ?_
  refine aq 3 ?_
  refine d7 [0,0,3,7,0,0,48,112,255,511] rfl (by decide +kernel) ?_
  refine dk 2 [18,17] [I x3,.isl false (a_1.map ae)] ?_
  obtain⟨e4,he4,h⟩:=bS h
  refine dq [] [] (.iptr (ae e4) 0) rfl (an rfl rfl rfl (aM rfl rfl rfl rfl he4)) ?_
  refine dq [] [] (ae e4) rfl (aO rfl rfl) ?_
  refine dk 2 [22,21] [I x3,.isl false (b_2.map ae)] ?_
  obtain⟨e5,he5,h⟩:=bS h
  refine dq [] [] (.iptr (ae e5) 0) rfl (an rfl rfl rfl (aM rfl rfl rfl rfl he5)) ?_
  refine dq [] [] (ae e5) rfl (aO rfl rfl) ?_
  obtain⟨r6,hr6,h⟩:=bS h
  refine dq [] [] (B r6) rfl (cP (Pa hr6)) ?_ (dj rfl rfl rfl rfl (ca (cT rfl) (ca (cT rfl) dD)) (Pa hr6) (.inr rfl) rfl)
  refine dk 1 [26] [B (!r6)] ?_
  refine de 225 rfl rfl ?_
  refine sq h (fun h=>?_) fun h=>?_
  ·refine cq 4 [4] [B false] 241 ?_
   exact ai rfl (hr _ (Option.some.inj h).symm _ (qp [B false]))
  ·refine aq 1 ?_
   refine cq 6 [5] [I (ar (x3+1))] 273 ?_
   refine cE ?_
   exact rf [0,1,5] [] (ih _ _ h hr hn :)
 ·refine aq 1 ?_
  exact rf [] [] (hn _ (Option.some.inj h).symm :) (hk:=hK)
theorem SL (a_1:List Duty)(b_2:List Duty)(r:Bool)(h:yB a_1 b_2=some r):bc GV Tryz.f69 [false,false] 0 (Cb (a_1,b_2)) (Ae r):=by
 show Run _ _ (OD (a_1,b_2) r) [.code Pw] _
 refine rI 27 [(0,.isl false (a_1.map ae)),(1,.isl false (b_2.map ae))] [] 1 ?_
 unfold yB at h
 refine cq 8 [6] [.isl false (a_1.map ae)] 33 ?_
 refine oq 49 (I (len a_1)) rfl (aW rfl rfl rfl (bb rfl)) ?_
 refine cq 1 [8] [.isl false (b_2.map ae)] 65 ?_
 refine oq 81 (I (len b_2)) rfl (aW rfl rfl rfl (bb rfl)) ?_
 refine cq 2 [10] [B ((len a_1) != (len b_2))] 97 ?_
 refine sq h (fun h=>?_) fun h=>?_
 ·refine cq 4 [4] [B false] 113 ?_
  obtain rfl:=Option.some.inj h
  exact ai rfl (qp [B false])
 ·refine aq 1 ?_
  refine cq 6 [5] [I (0)] 113 ?_
  obtain⟨y7,hy7,hy71,hy72⟩:=bJ h
  refine bD rfl ?_
  refine rf [0,1,5] [] (I1 a_1 b_2 rfl 0 _ hy7 (fun r' e st hq=>by rw[hy71 r' e] at hq;exact hq) fun u7 hu=>?_)
  replace h:=hy72 u7 hu
  refine cq 4 [4] [B true] 17 ?_
  obtain rfl:=Option.some.inj h
  exact ai rfl (qp [B true])
theorem PB {G:Go.Ln.Ground}:aH Tryz.prog G 69 yx:=gT 2 0 (aD N6 bf) (Checked.mixed Tryz.checked) Tryz.func69 (fun a r h=>SL a.1 a.2 r h)
def Ce:((List Int)×(List Int))→List V:=cA (ee I) (oA (ee I))
def AO (r:Bool):V×List V:=(B r,[])
noncomputable def wQ:Ent:=aP [false,false] Ce AO fun x=>xj x.1 x.2
theorem Vy {a_1:List Int}{b_2:List Int}{r}(h:xj a_1 b_2=some r):wQ.F (Ce (a_1,b_2))=some (AO r):=aA (aY (bw bO) (aB (bw bO))) h
noncomputable def Nz:Code:=ay Tryz.f28
noncomputable def IA:Env:=bC Tryz.prog []
def PR (x:(List Int)×(List Int))(r:Bool):St→Prop:=QF IA Tryz.f28 [false,false] (Ce x) (AO r)
theorem I8 (a_1:List Int)(b_2:List Int):b9 IA 0 (PR (a_1,b_2)) (cL (cL (cR (cL (cR (cR Nz)))))) 0 (rh a_1 b_2) (fun u=>(sT 26 [] [] 1)) fun x3=>(sT 26 [(0,.isl false (a_1.map I)),(1,.isl false (b_2.map I)),(5,I x3)] [] 1):=dM (wJ a_1 b_2) fun {Q K} hK self ih x3 y h hr hn=>by
 unfold kK at h
 refine cq 5 [11,12] [I x3,.isl false (a_1.map I)] 33 ?_
 refine oq 49 (I (len a_1)) rfl (aW rfl rfl rfl (bb rfl)) ?_
 refine cq 2 [14] [B (decide (x3<(len a_1)))] 65 ?_
 refine sq h (fun h=>?_) fun h=>?_
 ·refine aq 1 ?_
  refine aq 3 ?_
  refine d7 [0,0,3,7,0,0,48,112,255] rfl (by decide +kernel) ?_
  refine dk 2 [18,17] [I x3,.isl false (a_1.map I)] ?_
  obtain⟨e4,he4,h⟩:=bS h
  refine dq [] [] (.iptr (I e4) 0) rfl (an rfl rfl rfl (aM rfl rfl rfl rfl he4)) ?_
  refine dq [] [] (I e4) rfl (aO rfl rfl) ?_
  refine dk 2 [22,21] [I x3,.isl false (b_2.map I)] ?_
  obtain⟨e5,he5,h⟩:=bS h
  refine dq [] [] (.iptr (I e5) 0) rfl (an rfl rfl rfl (aM rfl rfl rfl rfl he5)) ?_
  refine dq [] [] (I e5) rfl (aO rfl rfl) ?_
  refine dk 1 [25] [B (e4 != e5)] ?_
  refine de 209 rfl rfl ?_
  refine sq h (fun h=>?_) fun h=>?_
  ·refine cq 4 [4] [B false] 225 ?_
   exact ai rfl (hr _ (Option.some.inj h).symm _ (qp [B false]))
  ·refine aq 1 ?_
   refine cq 6 [5] [I (ar (x3+1))] 257 ?_
   refine cE ?_
   exact rf [0,1,5] [] (ih _ _ h hr hn :)
 ·refine aq 1 ?_
  exact rf [] [] (hn _ (Option.some.inj h).symm :) (hk:=hK)
theorem Se (a_1:List Int)(b_2:List Int)(r:Bool)(h:xj a_1 b_2=some r):bc IA Tryz.f28 [false,false] 0 (Ce (a_1,b_2)) (AO r):=by
 show Run _ _ (PR (a_1,b_2) r) [.code Nz] _
 refine rI 26 [(0,.isl false (a_1.map I)),(1,.isl false (b_2.map I))] [] 1 ?_
 unfold xj at h
 refine cq 8 [6] [.isl false (a_1.map I)] 33 ?_
 refine oq 49 (I (len a_1)) rfl (aW rfl rfl rfl (bb rfl)) ?_
 refine cq 1 [8] [.isl false (b_2.map I)] 65 ?_
 refine oq 81 (I (len b_2)) rfl (aW rfl rfl rfl (bb rfl)) ?_
 refine cq 2 [10] [B ((len a_1) != (len b_2))] 97 ?_
 refine sq h (fun h=>?_) fun h=>?_
 ·refine cq 4 [4] [B false] 113 ?_
  obtain rfl:=Option.some.inj h
  exact ai rfl (qp [B false])
 ·refine aq 1 ?_
  refine cq 6 [5] [I (0)] 113 ?_
  obtain⟨y6,hy6,hy61,hy62⟩:=bJ h
  refine bD rfl ?_
  refine rf [0,1,5] [] (I8 a_1 b_2 rfl 0 _ hy6 (fun r' e st hq=>by rw[hy61 r' e] at hq;exact hq) fun u6 hu=>?_)
  replace h:=hy62 u6 hu
  refine cq 4 [4] [B true] 17 ?_
  obtain rfl:=Option.some.inj h
  exact ai rfl (qp [B true])
theorem Mo {G:Go.Ln.Ground}:aH Tryz.prog G 28 wQ:=gT 2 0 bf (Checked.mixed Tryz.checked) Tryz.func28 (fun a r h=>Se a.1 a.2 r h)
def CZ:(State×State)→List V:=cA bH (oA bH)
def Be (r:Bool):V×List V:=(B r,[])
noncomputable def yi:Ent:=aP [false,false] CZ Be fun x=>xg x.1 x.2
theorem O9 {a_1:State}{b_2:State}{r}(h:xg a_1 b_2=some r):yi.F (CZ (a_1,b_2))=some (Be r):=aA (aY cS (aB cS)) h
noncomputable def VC:Code:=ay Tryz.f22
noncomputable def PE:Env:=bC Tryz.prog [(67,rn),(69,yx),(28,wQ)]
def VP (x:State×State)(r:Bool):St→Prop:=QF PE Tryz.f22 [false,false] (CZ x) (Be r)
theorem QL (a_1:State)(b_2:State)(r:Bool)(h:xg a_1 b_2=some r):bc PE Tryz.f22 [false,false] 0 (CZ (a_1,b_2)) (Be r):=by
 show Run _ _ (VP (a_1,b_2) r) [.code VC] _
 refine rI 33 [(0,.agg [I a_1.Day,.isl false (a_1.Facts.map str),.isl false (a_1.Duties.map ae),.isl false (a_1.Balances.map I),B a_1.Over]),(1,.agg [I b_2.Day,.isl false (b_2.Facts.map str),.isl false (b_2.Duties.map ae),.isl false (b_2.Balances.map I),B b_2.Over])] [] 1 ?_
 unfold xg at h
 refine ck 15 [2,3,9] [] [1,17] [] [.hp 1 0 [] 5 0 0,.hp 17 0 [] 5 0 0,B (a_1.Day != b_2.Day)] [some ⟨0,5,[.agg [I a_1.Day,.isl false (a_1.Facts.map str),.isl false (a_1.Duties.map ae),.isl false (a_1.Balances.map I),B a_1.Over]]⟩,some ⟨0,5,[.agg [I b_2.Day,.isl false (b_2.Facts.map str),.isl false (b_2.Duties.map ae),.isl false (b_2.Balances.map I),B b_2.Over]]⟩] 129 (by kernel_rfl) ?_
 refine sq h (fun h=>?_) fun h=>?_
 ·refine cq 4 [4] [B false] 145 ?_
  obtain rfl:=Option.some.inj h
  exact ai rfl (qp [B false])
 ·refine aq 1 ?_
  refine cq 7 [11,13] [.isl false (a_1.Facts.map str),.isl false (b_2.Facts.map str)] 193 ?_
  obtain⟨r3,hr3,h⟩:=bS h
  refine oq 209 (B r3) rfl (cP (Mf hr3)) ?_
  refine cq 2 [15] [B (!r3)] 225 ?_
  refine sq h (fun h=>?_) fun h=>?_
  ·refine cq 4 [4] [B false] 241 ?_
   obtain rfl:=Option.some.inj h
   exact ai rfl (qp [B false])
  ·refine aq 1 ?_
   refine cq 7 [17,19] [.isl false (a_1.Duties.map ae),.isl false (b_2.Duties.map ae)] 289 ?_
   obtain⟨r4,hr4,h⟩:=bS h
   refine oq 305 (B r4) rfl (cP (Wz hr4)) ?_
   refine cq 2 [21] [B (!r4)] 321 ?_
   refine sq h (fun h=>?_) fun h=>?_
   ·refine cq 4 [4] [B false] 337 ?_
    obtain rfl:=Option.some.inj h
    exact ai rfl (qp [B false])
   ·refine aq 1 ?_
    refine cq 7 [23,25] [.isl false (a_1.Balances.map I),.isl false (b_2.Balances.map I)] 385 ?_
    obtain⟨r5,hr5,h⟩:=bS h
    refine oq 401 (B r5) rfl (cP (Vy hr5)) ?_
    refine cq 2 [27] [B (!r5)] 417 ?_
    refine sq h (fun h=>?_) fun h=>?_
    ·refine cq 4 [4] [B false] 433 ?_
     obtain rfl:=Option.some.inj h
     exact ai rfl (qp [B false])
    ·refine aq 1 ?_
     refine cq 9 [32] [B (!(a_1.Over==b_2.Over))] 497 ?_
     refine sq h (fun h=>?_) fun h=>?_
     ·refine cq 4 [4] [B false] 513 ?_
      obtain rfl:=Option.some.inj h
      exact ai rfl (qp [B false])
     ·refine aq 1 ?_
      refine cq 4 [4] [B true] 513 ?_
      obtain rfl:=Option.some.inj h
      exact ai rfl (qp [B true])
theorem Pc {G:Go.Ln.Ground}:aH Tryz.prog G 22 yi:=gT 2 0 (aD E3 (aD PB (aD Mo bf))) (Checked.mixed Tryz.checked) Tryz.func22 (fun a r h=>QL a.1 a.2 r h)
def ep:(Contract×State)→List V:=cA aG (oA bH)
def eu (r:Bool):V×List V:=(B r,[])
noncomputable def fi:Ent:=aP [false,false] ep eu fun x=>dG x.1 x.2
theorem nN {aC_1:Contract}{aS_2:State}{r}(h:dG aC_1 aS_2=some r):fi.F (ep (aC_1,aS_2))=some (eu r):=aA (aY aQ (aB cS)) h
noncomputable def ew:Code:=ay Tryz.f4
noncomputable def fJ:Env:=bC Tryz.prog [(15,yM),(16,xN),(18,yF),(19,yh),(23,xm),(24,DW),(21,xh),(22,yi)]
def i6 (x:Contract×State)(r:Bool):St→Prop:=QF fJ Tryz.f4 [false,false] (ep x) (eu r)
theorem nj (aC_1:Contract)(aS_2:State)(r:Bool)(h:dG aC_1 aS_2=some r):bc fJ Tryz.f4 [false,false] 0 (ep (aC_1,aS_2)) (eu r):=by
 show Run _ _ (i6 (aC_1,aS_2) r) [.code ew] _
 refine rI 58 [(0,aG aC_1),(1,bH aS_2)] [] 1 ?_
 unfold dG at h
 refine ck 14 [2,3,12,13] [] [1,17] [] [.hp 1 0 [] 2 0 0,.hp 17 0 [] 5 0 0,aG aC_1,I (1048576)] [some ⟨0,2,[aG aC_1]⟩,some ⟨0,5,[bH aS_2]⟩] 97 (by kernel_rfl) ?_
 obtain⟨r3,hr3,h⟩:=bS h
 refine oq 113 (I r3) rfl (cP (WW hr3)) ?_
 refine cq 8 [5,16] [I r3,B (decide (r3<0))] 161 ?_
 refine sq h (fun h=>?_) fun h=>?_
 ·refine cq 4 [4] [B true] 177 ?_
  obtain rfl:=Option.some.inj h
  exact ai rfl (qp [B true])
 ·refine aq 1 ?_
  refine cq 4 [17,18] [bH aS_2,I r3] 193 ?_
  obtain⟨r4,hr4,h⟩:=bS h
  refine oq 209 (I r4) rfl (cP (WY hr4)) ?_
  refine ck 8 [21] [5] [] [] [B (decide (r4<0))] [] 257 (by kernel_rfl) ?_
  refine sq h (fun h=>?_) fun h=>?_
  ·refine cq 4 [4] [B true] 273 ?_
   obtain rfl:=Option.some.inj h
   exact ai rfl (qp [B true])
  ·refine aq 1 ?_
   refine aq 1 ?_
   refine d7 [0,1,0,7,15,31,63,63,127,511] rfl (by decide +kernel) ?_
   refine dq [1] [] (aG aC_1) rfl (aO rfl rfl) ?_
   obtain⟨r5,hr5,h⟩:=bS h
   refine dq [] [] (.agg [.hs 273 0 [] 1 0 (r5.Parties.map str).length,.hs 274 0 [] 12 0 (r5.Clauses.map aE).length]) rfl (cP (tX hr5)) ?_ (dj rfl rfl rfl rfl (ca (cT rfl) dD) (tX hr5) (.inr rfl) rfl)
   refine dq [17] [] (bH aS_2) rfl (aO rfl rfl) ?_
   obtain⟨r6,hr6,h⟩:=bS h
   refine dq [] [] (.agg [I r6.Day,.hs 305 0 [] 1 0 (r6.Facts.map str).length,.hs 306 0 [] 4 0 (r6.Duties.map ae).length,.hs 307 0 [] 1 0 (r6.Balances.map I).length,B r6.Over]) rfl (cP (tH hr6)) ?_ (dj rfl rfl rfl rfl (ca (cT rfl) dD) (tH hr6) (.inr rfl) rfl)
   obtain⟨r7,hr7,h⟩:=bS h
   refine dq [273,274,305,306,307] [] (.tup [B r7.1,B r7.2]) rfl (co rfl rfl (cM rfl rfl rfl (ca (ou (dh (d8 (f:=str) (g:=str) (xs:=r5.Parties) rfl rfl (bV em)) (dh (d8 (f:=aE) (g:=aa) (xs:=r5.Clauses) rfl rfl (bV eF)) kf))) (ca (ou (dh (gL rfl) (dh (d8 (f:=str) (g:=str) (xs:=r6.Facts) rfl rfl (bV em)) (dh (d8 (f:=ae) (g:=ae) (xs:=r6.Duties) rfl rfl (bV ga)) (dh (d8 (f:=I) (g:=I) (xs:=r6.Balances) rfl rfl (bV rK)) (dh (gL rfl) kf)))))) dD)) (Nk hr7) (.inl rfl) ec rfl rfl rfl)) ?_ (dj rfl rfl rfl rfl (ca (ou (dh (d8 (f:=str) (g:=str) (xs:=r5.Parties) rfl rfl (bV em)) (dh (d8 (f:=aE) (g:=aa) (xs:=r5.Clauses) rfl rfl (bV eF)) kf))) (ca (ou (dh (gL rfl) (dh (d8 (f:=str) (g:=str) (xs:=r6.Facts) rfl rfl (bV em)) (dh (d8 (f:=ae) (g:=ae) (xs:=r6.Duties) rfl rfl (bV ga)) (dh (d8 (f:=I) (g:=I) (xs:=r6.Balances) rfl rfl (bV rK)) (dh (gL rfl) kf)))))) dD)) (Nk hr7) (.inl rfl) rfl)
   refine dk 5 [7,6,29,28,22] [B r7.2,B r7.1,B r7.2,B r7.1,.tup [B r7.1,B r7.2]] ?_
   refine de 417 rfl rfl ?_
   refine cq 3 [30] [aG aC_1] 433 ?_
   obtain⟨r8,hr8,h⟩:=bS h
   refine oq 449 (.agg [.hs 433 0 [] 1 0 (r8.Parties.map str).length,.hs 434 0 [] 12 0 (r8.Clauses.map aE).length]) rfl (cP (tX hr8)) ?_
   refine ck 1 [8] [] [449] [] [.hp 449 0 [] 2 0 0] [some ⟨0,2,[.agg [.isl true [],.isl true []]]⟩] 465 (by kernel_rfl) ?_
   refine d9 449 [.agg [.usl 1 (([]).map str),.usl 12 (([]).map aE)]] rfl rfl (au (fg (au (.nil _) (au (.nil _) dz))) dz) ?_
   refine o0 481 rfl rfl (gf rfl rfl (eP (path:=[]) (pl:=false) (e':=.agg [.usl 1 (r8.Parties.map str),.usl 12 (r8.Clauses.map aE)]) (es2':=[.agg [.usl 1 (r8.Parties.map str),.usl 12 (r8.Clauses.map aE)]]) rfl (mt (bN (cN rfl rfl) (bN (cN rfl rfl) mz))) rfl rfl rfl bd rfl rfl rfl rfl rfl dU 2 rfl)) ?_
   refine cq 4 [32] [bH aS_2] 497 ?_
   obtain⟨r9,hr9,h⟩:=bS h
   refine oq 513 (.agg [I r9.Day,.hs 497 0 [] 1 0 (r9.Facts.map str).length,.hs 498 0 [] 4 0 (r9.Duties.map ae).length,.hs 499 0 [] 1 0 (r9.Balances.map I).length,B r9.Over]) rfl (cP (tH hr9)) ?_
   refine ck 1 [9] [] [513] [] [.hp 513 0 [] 5 0 0] [some ⟨0,5,[.agg [I (0),.isl true [],.isl true [],.isl true [],B false]]⟩] 529 (by kernel_rfl) ?_
   refine d9 513 [.agg [I (0),.usl 1 (([]).map str),.usl 4 (([]).map ae),.usl 1 (([]).map I),B false]] rfl rfl (au (fg (au (.refl _) (au (.nil _) (au (.nil _) (au (.nil _) (au (.refl _) dz)))))) dz) ?_
   refine o0 545 rfl rfl (gf rfl rfl (eP (path:=[]) (pl:=false) (e':=.agg [I r9.Day,.usl 1 (r9.Facts.map str),.usl 4 (r9.Duties.map ae),.usl 1 (r9.Balances.map I),B r9.Over]) (es2':=[.agg [I r9.Day,.usl 1 (r9.Facts.map str),.usl 4 (r9.Duties.map ae),.usl 1 (r9.Balances.map I),B r9.Over]]) rfl (mt (bN (cb rfl) (bN (cN rfl rfl) (bN (cN rfl rfl) (bN (cN rfl rfl) (bN (cb rfl) mz)))))) rfl rfl rfl bd rfl rfl rfl rfl rfl dU 2 rfl)) ?_
   refine cq 5 [35,36] [.agg [.hs 449 2 [(0,0)] 1 0 (r8.Parties.map str).length,.hs 449 2 [(0,1)] 12 0 (r8.Clauses.map aE).length],.agg [I r9.Day,.hs 513 2 [(0,1)] 1 0 (r9.Facts.map str).length,.hs 513 2 [(0,2)] 4 0 (r9.Duties.map ae).length,.hs 513 2 [(0,3)] 1 0 (r9.Balances.map I).length,B r9.Over]] 577 ?_
   obtain⟨r10,hr10,h⟩:=bS h
   refine oq 593 (.tup [B r10.1,B r10.2]) rfl (co rfl rfl (cM rfl rfl rfl (ca (ou (dh (io (path:=[(0,0)]) rfl rfl (eE rfl rfl bd) rfl (bV (f:=str) em)) (dh (io (path:=[(0,1)]) rfl rfl (eE rfl rfl bd) rfl (bV (f:=aE) eF)) kf))) (ca (ou (dh (gL rfl) (dh (io (path:=[(0,1)]) rfl rfl (eE rfl rfl bd) rfl (bV (f:=str) em)) (dh (io (path:=[(0,2)]) rfl rfl (eE rfl rfl bd) rfl (bV (f:=ae) ga)) (dh (io (path:=[(0,3)]) rfl rfl (eE rfl rfl bd) rfl (bV (f:=I) rK)) (dh (gL rfl) kf)))))) dD)) (XB hr10) (.inl rfl) ec rfl rfl rfl)) ?_
   refine cq 13 [11,43] [B r10.2,B (!(r10.1==r7.1))] 737 ?_
   obtain⟨u11,hu11,h⟩:=lJ h
   have j11:Run fJ 0 (i6 (aC_1,aS_2) r) (.code (cR (cL (cR (cR (cR (cR (cR (cR (cR (cR (cR (cR ew))))))))))))::.code (cR (cR (cR (cR (cR (cR (cR (cR (cR (cR (cR ew)))))))))))::[]) (sT 58 [(2,.hp 1 0 [] 2 0 0),(3,.hp 2 0 [] 5 0 0),(8,.hp 3 0 [] 2 0 0),(9,.hp 4 0 [] 5 0 0),(47,B u11)] [⟨0,2,[aG aC_1]⟩,⟨0,5,[bH aS_2]⟩,⟨0,2,[.agg [.usl 1 (r8.Parties.map str),.usl 12 (r8.Clauses.map aE)]]⟩,⟨0,5,[.agg [I r9.Day,.usl 1 (r9.Facts.map str),.usl 4 (r9.Duties.map ae),.usl 1 (r9.Balances.map I),B r9.Over]]⟩] 5):=by
    refine sq h (fun h=>?_) fun h=>?_
    ·refine cq 4 [4] [B false] 21 ?_
     obtain rfl:=Option.some.inj h
     exact ai rfl (qp [B false])
    ·refine aq 1 ?_
     refine aq 2 ?_
     refine d7 [0,0,2,7,15] rfl (by decide +kernel) ?_
     refine dq [3] [] (.agg [.hs 3 0 [(0,0)] 1 0 (r8.Parties.map str).length,.hs 3 0 [(0,1)] 12 0 (r8.Clauses.map aE).length]) rfl (aO rfl rfl) ?_
     refine dq [1] [] (aG aC_1) rfl (aO rfl rfl) ?_
     obtain⟨r12,hr12,h⟩:=bS h
     refine dq [] [] (.agg [.hs 37 0 [] 1 0 (r12.Parties.map str).length,.hs 38 0 [] 12 0 (r12.Clauses.map aE).length]) rfl (cP (tX hr12)) ?_ (dj rfl rfl rfl rfl (ca (cT rfl) dD) (tX hr12) (.inr rfl) rfl)
     obtain⟨r13,hr13,h⟩:=bS h
     refine dq [3,3,37,38] [] (B r13) rfl (co rfl rfl (cM rfl rfl rfl (ca (ou (dh (io (path:=[(0,0)]) rfl rfl (eE rfl rfl bd) rfl (bV (f:=str) em)) (dh (io (path:=[(0,1)]) rfl rfl (eE rfl rfl bd) rfl (bV (f:=aE) eF)) kf))) (ca (ou (dh (d8 (f:=str) (g:=str) (xs:=r12.Parties) rfl rfl (bV em)) (dh (d8 (f:=aE) (g:=aa) (xs:=r12.Clauses) rfl rfl (bV eF)) kf))) dD)) (Pu hr13) (.inl rfl) ec rfl rfl rfl)) ?_ (dj rfl rfl rfl rfl (ca (ou (dh (io (path:=[(0,0)]) rfl rfl (eE rfl rfl bd) rfl (bV (f:=str) em)) (dh (io (path:=[(0,1)]) rfl rfl (eE rfl rfl bd) rfl (bV (f:=aE) eF)) kf))) (ca (ou (dh (d8 (f:=str) (g:=str) (xs:=r12.Parties) rfl rfl (bV em)) (dh (d8 (f:=aE) (g:=aa) (xs:=r12.Clauses) rfl rfl (bV eF)) kf))) dD)) (Pu hr13) (.inl rfl) rfl)
     refine dk 1 [52] [B (!r13)] ?_
     refine de 85 rfl rfl ?_
     refine sq h (fun h=>?_) fun h=>?_
     ·refine cq 4 [4] [B false] 101 ?_
      obtain rfl:=Option.some.inj h
      exact ai rfl (qp [B false])
     ·refine aq 1 ?_
      refine aq 2 ?_
      refine d7 [0,0,2,7,15] rfl (by decide +kernel) ?_
      refine dq [4] [] (.agg [I r9.Day,.hs 4 0 [(0,1)] 1 0 (r9.Facts.map str).length,.hs 4 0 [(0,2)] 4 0 (r9.Duties.map ae).length,.hs 4 0 [(0,3)] 1 0 (r9.Balances.map I).length,B r9.Over]) rfl (aO rfl rfl) ?_
      refine dq [2] [] (bH aS_2) rfl (aO rfl rfl) ?_
      obtain⟨r14,hr14,h⟩:=bS h
      refine dq [] [] (.agg [I r14.Day,.hs 117 0 [] 1 0 (r14.Facts.map str).length,.hs 118 0 [] 4 0 (r14.Duties.map ae).length,.hs 119 0 [] 1 0 (r14.Balances.map I).length,B r14.Over]) rfl (cP (tH hr14)) ?_ (dj rfl rfl rfl rfl (ca (cT rfl) dD) (tH hr14) (.inr rfl) rfl)
      obtain⟨r15,hr15,h⟩:=bS h
      refine dq [4,4,4,117,118,119] [] (B r15) rfl (co rfl rfl (cM rfl rfl rfl (ca (ou (dh (gL rfl) (dh (io (path:=[(0,1)]) rfl rfl (eE rfl rfl bd) rfl (bV (f:=str) em)) (dh (io (path:=[(0,2)]) rfl rfl (eE rfl rfl bd) rfl (bV (f:=ae) ga)) (dh (io (path:=[(0,3)]) rfl rfl (eE rfl rfl bd) rfl (bV (f:=I) rK)) (dh (gL rfl) kf)))))) (ca (ou (dh (gL rfl) (dh (d8 (f:=str) (g:=str) (xs:=r14.Facts) rfl rfl (bV em)) (dh (d8 (f:=ae) (g:=ae) (xs:=r14.Duties) rfl rfl (bV ga)) (dh (d8 (f:=I) (g:=I) (xs:=r14.Balances) rfl rfl (bV rK)) (dh (gL rfl) kf)))))) dD)) (O9 hr15) (.inl rfl) ec rfl rfl rfl)) ?_ (dj rfl rfl rfl rfl (ca (ou (dh (gL rfl) (dh (io (path:=[(0,1)]) rfl rfl (eE rfl rfl bd) rfl (bV (f:=str) em)) (dh (io (path:=[(0,2)]) rfl rfl (eE rfl rfl bd) rfl (bV (f:=ae) ga)) (dh (io (path:=[(0,3)]) rfl rfl (eE rfl rfl bd) rfl (bV (f:=I) rK)) (dh (gL rfl) kf)))))) (ca (ou (dh (gL rfl) (dh (d8 (f:=str) (g:=str) (xs:=r14.Facts) rfl rfl (bV em)) (dh (d8 (f:=ae) (g:=ae) (xs:=r14.Duties) rfl rfl (bV ga)) (dh (d8 (f:=I) (g:=I) (xs:=r14.Balances) rfl rfl (bV rK)) (dh (gL rfl) kf)))))) dD)) (O9 hr15) (.inl rfl) rfl)
      refine dk 1 [57] [B (!r15)] ?_
      refine de 165 rfl rfl ?_
      refine sq h (fun h=>?_) fun h=>?_
      ·refine cq 4 [4] [B false] 181 ?_
       obtain rfl:=Option.some.inj h
       exact ai rfl (qp [B false])
      ·refine aq 1 ?_
       refine cq 4 [4] [B true] 181 ?_
       obtain rfl:=Option.some.inj h
       exact ai rfl (qp [B true])
   replace h:=hu11
   clear hu11
   refine sp 43 h rfl (fun h=>?_) fun h=>?_
   ·refine cq 5 [47] [B true] 801 ?_
    subst h
    exact rf [2,3,8,9,47] [1,17,449,513] (j11 :)
   ·refine cq 5 [47] [B (!(r10.2==r7.2))] 801 ?_
    subst h
    exact rf [2,3,8,9,47] [1,17,449,513] (j11 :)
theorem ml {G:Go.Ln.Ground}:aH Tryz.prog G 4 fi:=gT 2 0 (aD P0 (aD P3 (aD NW (aD Ps (aD NZ (aD Rp (aD Mh (aD Pc bf)))))))) (Checked.mixed Tryz.checked) Tryz.func4 (fun a r h=>nj a.1 a.2 r h)
end Go.Ln
