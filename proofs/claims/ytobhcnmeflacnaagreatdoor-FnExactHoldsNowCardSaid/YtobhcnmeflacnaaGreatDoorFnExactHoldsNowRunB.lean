/-
  Each function of the program computes its plain function.
-/
import Derived.Test.YtobhcnmeflacnaaGreatDoorFnExactHoldsNowRunA
set_option maxHeartbeats 4000000
set_option linter.unusedVariables false
set_option linter.unusedSimpArgs false
set_option maxRecDepth 100000
namespace Go.Ln
open Go Go.Proofs
theorem VY (c_1:Contract)(i_2:Int)(r:Bool)(h:Ii c_1 i_2=some r):ba iD Tryz.f124 [false,false] 0 (GE (c_1,i_2)) (Gz r):=by
 show Run _ _ (dC (c_1,i_2) r) [.code ks] _
 refine rI 119 [(0,.agg [.isl false (c_1.Parties.map str),.isl false (c_1.Clauses.map ac)]),(1,I i_2)] [] 1 ?_
 unfold Ii at h
 refine ck 10 [2,9,10] [] [1] [] [.hp 1 0 [] 2 0 0,.isl false (c_1.Clauses.map ac),I i_2] [some ⟨0,2,[.agg [.isl false (c_1.Parties.map str),.isl false (c_1.Clauses.map ac)]]⟩] 81 (by kernel_rfl) ?_
 obtain⟨e3,he3,h⟩:=bS h
 refine oq 97 (.iptr (.agg [str e3.Id,I e3.Kind,I e3.Party,str e3.Action,I e3.Other,I e3.Amount,I e3.When.Op,str e3.When.Name,I e3.When.Day,.isl false (e3.When.Parts.map aa),I e3.Within,str e3.Repair]) 0) rfl (al rfl rfl rfl (aM rfl rfl rfl rfl he3)) ?_
 refine ck 2 [5,12] [] [113] [] [.hp 113 0 [] 12 0 0,.agg [str e3.Id,I e3.Kind,I e3.Party,str e3.Action,I e3.Other,I e3.Amount,I e3.When.Op,str e3.When.Name,I e3.When.Day,.isl false (e3.When.Parts.map aa),I e3.Within,str e3.Repair]] [some ⟨0,12,[.agg [str ([]),I (0),I (0),str ([]),I (0),I (0),I (0),str ([]),I (0),.isl true [],I (0),str ([])]]⟩] 129 (by kernel_rfl) ?_
 refine eb 113 [.agg [str ([]),I (0),I (0),str ([]),I (0),I (0),I (0),str ([]),I (0),.usl 4 (([]).map ap),I (0),str ([])]] rfl rfl (au (eU (au (.refl _) (au (.refl _) (au (.refl _) (au (.refl _) (au (.refl _) (au (.refl _) (au (.refl _) (au (.refl _) (au (.refl _) (au (.nil _) (au (.refl _) (au (.refl _) dm))))))))))))) dm) ?_
 refine ck 6 [14] [] [113] [] [.isl false (c_1.Parties.map str)] [some ⟨2,12,[.agg [str e3.Id,I e3.Kind,I e3.Party,str e3.Action,I e3.Other,I e3.Amount,I e3.When.Op,str e3.When.Name,I e3.When.Day,.isl false (e3.When.Parts.map aa),I e3.Within,str e3.Repair]]⟩] 177 (by kernel_rfl) ?_
 refine oq 193 (I (len c_1.Parties)) rfl (aZ rfl rfl rfl (bg rfl)) ?_
 refine cq 8 [6,18] [I (ar ((len c_1.Parties) - 1)),str e3.Id] 257 ?_
 obtain⟨r4,hr4,h⟩:=bS h
 refine oq 273 (B r4) rfl (cP (Dg hr4)) ?_
 refine cq 2 [21] [B (!r4)] 305 ?_
 obtain⟨y5,hy5,hy51,hy52⟩:=bJ h
 have j5:∀u5,y5=.inr u5→Run iD 0 (dC (c_1,i_2) r) (.code (cR (cL (cR (cR (cR ks)))))::.code (cR (cR (cR (cR ks))))::[]) (sT 119 [(1,I i_2),(2,.hp 1 0 [] 2 0 0),(5,.hp 2 0 [] 12 0 0),(6,I (ar ((len c_1.Parties) - 1))),(40,B u5)] [⟨0,2,[.agg [.isl false (c_1.Parties.map str),.isl false (c_1.Clauses.map ac)]]⟩,⟨0,12,[.agg [str e3.Id,I e3.Kind,I e3.Party,str e3.Action,I e3.Other,I e3.Amount,I e3.When.Op,str e3.When.Name,I e3.When.Day,.isl false (e3.When.Parts.map aa),I e3.Within,str e3.Repair]]⟩] 3):=by
  intro u5 hu
  replace h:=hy52 u5 hu
  refine sq h (fun h=>?_) fun h=>?_
  ·refine cq 4 [4] [B false] 19 ?_
   obtain rfl:=Option.some.inj h
   exact ai rfl (qp [B false])
  ·refine aq 1 ?_
   refine cq 6 [42,43] [I e3.Party,I (ar ((len c_1.Parties) - 1))] 51 ?_
   obtain⟨r6,hr6,h⟩:=bS h
   refine oq 67 (B r6) rfl (cP (gb hr6)) ?_
   refine cq 2 [46] [B (!r6)] 99 ?_
   obtain⟨y7,hy7,hy71,hy72⟩:=bJ h
   have j7:∀u7,y7=.inr u7→Run iD 0 (dC (c_1,i_2) r) (.code H5::.code (cR (cR (cR (cR (cR ks)))))::[]) (sT 119 [(1,I i_2),(2,.hp 1 0 [] 2 0 0),(5,.hp 2 0 [] 12 0 0),(65,B u7)] [⟨0,2,[.agg [.isl false (c_1.Parties.map str),.isl false (c_1.Clauses.map ac)]]⟩,⟨0,12,[.agg [str e3.Id,I e3.Kind,I e3.Party,str e3.Action,I e3.Other,I e3.Amount,I e3.When.Op,str e3.When.Name,I e3.When.Day,.isl false (e3.When.Parts.map aa),I e3.Within,str e3.Repair]]⟩] 3):=by
    intro u7 hu
    replace h:=hy72 u7 hu
    refine sq h (fun h=>?_) fun h=>?_
    ·refine cq 4 [4] [B false] 19 ?_
     obtain rfl:=Option.some.inj h
     exact ai rfl (qp [B false])
    ·refine aq 1 ?_
     refine cq 5 [67] [I e3.Amount] 35 ?_
     obtain⟨r8,hr8,h⟩:=bS h
     refine oq 51 (B r8) rfl (cP (gb hr8)) ?_
     refine cq 2 [70] [B (!r8)] 83 ?_
     obtain⟨y9,hy9,hy91,hy92⟩:=bJ h
     have j9:∀u9,y9=.inr u9→Run iD 0 (dC (c_1,i_2) r) (.code Cg::.code vn::[]) (sT 119 [(1,I i_2),(2,.hp 1 0 [] 2 0 0),(5,.hp 2 0 [] 12 0 0),(90,B u9)] [⟨0,2,[.agg [.isl false (c_1.Parties.map str),.isl false (c_1.Clauses.map ac)]]⟩,⟨0,12,[.agg [str e3.Id,I e3.Kind,I e3.Party,str e3.Action,I e3.Other,I e3.Amount,I e3.When.Op,str e3.When.Name,I e3.When.Day,.isl false (e3.When.Parts.map aa),I e3.Within,str e3.Repair]]⟩] 3):=by
      intro u9 hu
      replace h:=hy92 u9 hu
      refine sq h (fun h=>?_) fun h=>?_
      ·refine cq 4 [4] [B false] 19 ?_
       obtain rfl:=Option.some.inj h
       exact ai rfl (qp [B false])
      ·refine aq 1 ?_
       refine cq 7 [93] [B (e3.Repair==([]:ah))] 51 ?_
       refine sq h (fun h=>?_) fun h=>?_
       ·refine cq 4 [4] [B true] 67 ?_
        obtain rfl:=Option.some.inj h
        exact ai rfl (qp [B true])
       ·refine aq 1 ?_
        refine cq 5 [94,96] [.agg [.isl false (c_1.Parties.map str),.isl false (c_1.Clauses.map ac)],str e3.Repair] 99 ?_
        obtain⟨r10,hr10,h⟩:=bS h
        refine oq 115 (I r10) rfl (cP (UG hr10)) ?_
        refine cq 8 [7,101] [I r10,B (e3.Kind != 3)] 195 ?_
        obtain⟨y11,hy11,hy111,hy112⟩:=bJ h
        have j11:∀u11,y11=.inr u11→Run iD 0 (dC (c_1,i_2) r) (.code Jv::[]) (sT 119 [(4,B u11)] [] 1):=by
         intro u11 hu
         replace h:=hy112 u11 hu
         obtain rfl:=Option.some.inj h
         exact ai rfl (qp [B u11])
        have r11:∀r',y11=.inl r'→∀st,dC (c_1,i_2) r' st→(dC (c_1,i_2) r) st:=fun r' e st hq=>by rw[hy111 r' e] at hq;exact hq
        replace h:=hy11
        refine sp 101 h rfl (fun h=>?_) fun h=>?_
        ·refine cq 4 [105] [B (decide (r10≥0))] 259 ?_
         obtain⟨y12,hy12,hy121,hy122⟩:=bL h
         have j12:∀u12,y12=.inr u12→Run iD 0 (dC (c_1,i_2) r) (.code Jv::[]) (sT 119 [(4,B u12)] [] 1):=by
          intro u12 hu
          replace h:=hy122 u12 hu
          exact rf [4] [] (j11 _ (Option.some.inj h).symm :)
         have r12:∀r',y12=.inl r'→∀st,dC (c_1,i_2) r' st→(dC (c_1,i_2) r) st:=fun r' e st hq=>r11 r' (hy121 r' e) st hq
         replace h:=hy12
         refine sp 105 h rfl (fun h=>?_) fun h=>?_
         ·refine cq 5 [110] [B (r10 != i_2)] 339 ?_
          obtain⟨y13,hy13,hy131,hy132⟩:=bL h
          have j13:∀u13,y13=.inr u13→Run iD 0 (dC (c_1,i_2) r) (.code Jv::[]) (sT 119 [(4,B u13)] [] 1):=by
           intro u13 hu
           replace h:=hy132 u13 hu
           exact rf [4] [] (j12 _ (Option.some.inj h).symm :)
          have r13:∀r',y13=.inl r'→∀st,dC (c_1,i_2) r' st→(dC (c_1,i_2) r) st:=fun r' e st hq=>r12 r' (hy131 r' e) st hq
          replace h:=hy13
          refine sp 110 h rfl (fun h=>?_) fun h=>?_
          ·refine cq 3 [112,113] [.isl false (c_1.Clauses.map ac),I r10] 387 ?_
           obtain⟨e14,he14,h⟩:=bS h
           refine oy 403 (.iptr (.agg [str e14.Id,I e14.Kind,I e14.Party,str e14.Action,I e14.Other,I e14.Amount,I e14.When.Op,str e14.When.Name,I e14.When.Day,.isl false (e14.When.Parts.map aa),I e14.Within,str e14.Repair]) 0) rfl (al rfl rfl rfl (aM rfl rfl rfl rfl he14)) ?_
           refine cq 6 [4] [B (e14.Kind==1)] 483 ?_
           exact rf [4] [] (j13 _ (Option.some.inj h).symm :)
          ·refine cq 10 [4] [B false] 483 ?_
           exact rf [4] [] (j13 _ (Option.some.inj h).symm :)
         ·refine cq 15 [4] [B false] 483 ?_
          exact rf [4] [] (j12 _ (Option.some.inj h).symm :)
        ·refine cq 19 [4] [B false] 483 ?_
         exact rf [4] [] (j11 _ (Option.some.inj h).symm :)
     have r9:∀r',y9=.inl r'→∀st,dC (c_1,i_2) r' st→(dC (c_1,i_2) r) st:=fun r' e st hq=>by rw[hy91 r' e] at hq;exact hq
     replace h:=hy9
     refine sp 70 h rfl (fun h=>?_) fun h=>?_
     ·refine cq 21 [90] [B true] 403 ?_
      exact rf [1,2,5,90] [1,2] (j9 _ (Option.some.inj h).symm :)
     ·refine cq 2 [72] [I e3.Within] 115 ?_
      obtain⟨r15,hr15,h⟩:=bS h
      refine oy 131 (B r15) rfl (cP (gb hr15)) ?_
      refine cq 3 [76] [B (!r15)] 179 ?_
      obtain⟨u16,hu16,h⟩:=lJ h
      have j16:Run iD 0 (dC (c_1,i_2) r) (.code Cg::.code vn::[]) (sT 119 [(1,I i_2),(2,.hp 1 0 [] 2 0 0),(5,.hp 2 0 [] 12 0 0),(90,B u16)] [⟨0,2,[.agg [.isl false (c_1.Parties.map str),.isl false (c_1.Clauses.map ac)]]⟩,⟨0,12,[.agg [str e3.Id,I e3.Kind,I e3.Party,str e3.Action,I e3.Other,I e3.Amount,I e3.When.Op,str e3.When.Name,I e3.When.Day,.isl false (e3.When.Parts.map aa),I e3.Within,str e3.Repair]]⟩] 3):=by
       exact rf [1,2,5,90] [1,2] (j9 _ (Option.some.inj h).symm :)
      replace h:=hu16
      clear hu16
      refine sp 76 h rfl (fun h=>?_) fun h=>?_
      ·refine cq 15 [90] [B true] 403 ?_
       subst h
       exact rf [1,2,5,90] [1,2] (j16 :)
      ·refine cq 4 [80] [B (e3.Kind != 1)] 243 ?_
       obtain⟨u17,hu17,h⟩:=lJ h
       have j17:Run iD 0 (dC (c_1,i_2) r) (.code Cg::.code vn::[]) (sT 119 [(1,I i_2),(2,.hp 1 0 [] 2 0 0),(5,.hp 2 0 [] 12 0 0),(90,B u17)] [⟨0,2,[.agg [.isl false (c_1.Parties.map str),.isl false (c_1.Clauses.map ac)]]⟩,⟨0,12,[.agg [str e3.Id,I e3.Kind,I e3.Party,str e3.Action,I e3.Other,I e3.Amount,I e3.When.Op,str e3.When.Name,I e3.When.Day,.isl false (e3.When.Parts.map aa),I e3.Within,str e3.Repair]]⟩] 3):=by
        subst h
        exact rf [1,2,5,90] [1,2] (j16 :)
       replace h:=hu17
       clear hu17
       refine sp 80 h rfl (fun h=>?_) fun h=>?_
       ·refine cq 4 [84] [B (e3.Amount != 0)] 307 ?_
        obtain⟨u18,hu18,h⟩:=lJ h
        have j18:Run iD 0 (dC (c_1,i_2) r) (.code Cg::.code vn::[]) (sT 119 [(1,I i_2),(2,.hp 1 0 [] 2 0 0),(5,.hp 2 0 [] 12 0 0),(90,B u18)] [⟨0,2,[.agg [.isl false (c_1.Parties.map str),.isl false (c_1.Clauses.map ac)]]⟩,⟨0,12,[.agg [str e3.Id,I e3.Kind,I e3.Party,str e3.Action,I e3.Other,I e3.Amount,I e3.When.Op,str e3.When.Name,I e3.When.Day,.isl false (e3.When.Parts.map aa),I e3.Within,str e3.Repair]]⟩] 3):=by
         subst h
         exact rf [1,2,5,90] [1,2] (j17 :)
        replace h:=hu18
        clear hu18
        refine sp 84 h rfl (fun h=>?_) fun h=>?_
        ·refine cq 7 [90] [B true] 403 ?_
         subst h
         exact rf [1,2,5,90] [1,2] (j18 :)
        ·refine cq 7 [90] [B (e3.Within != 0)] 403 ?_
         subst h
         exact rf [1,2,5,90] [1,2] (j18 :)
       ·refine cq 11 [90] [B false] 403 ?_
        subst h
        exact rf [1,2,5,90] [1,2] (j17 :)
   have r7:∀r',y7=.inl r'→∀st,dC (c_1,i_2) r' st→(dC (c_1,i_2) r) st:=fun r' e st hq=>by rw[hy71 r' e] at hq;exact hq
   replace h:=hy7
   refine sp 46 h rfl (fun h=>?_) fun h=>?_
   ·refine cq 20 [65] [B true] 403 ?_
    exact rf [1,2,5,65] [1,2] (j7 _ (Option.some.inj h).symm :)
   ·refine cq 3 [48,49] [I e3.Other,I (ar ((len c_1.Parties) - 1))] 147 ?_
    obtain⟨r19,hr19,h⟩:=bS h
    refine oy 163 (B r19) rfl (cP (gb hr19)) ?_
    refine cq 3 [53] [B (!r19)] 211 ?_
    obtain⟨y20,hy20,hy201,hy202⟩:=bL h
    have j20:∀u20,y20=.inr u20→Run iD 0 (dC (c_1,i_2) r) (.code H5::.code (cR (cR (cR (cR (cR ks)))))::[]) (sT 119 [(1,I i_2),(2,.hp 1 0 [] 2 0 0),(5,.hp 2 0 [] 12 0 0),(65,B u20)] [⟨0,2,[.agg [.isl false (c_1.Parties.map str),.isl false (c_1.Clauses.map ac)]]⟩,⟨0,12,[.agg [str e3.Id,I e3.Kind,I e3.Party,str e3.Action,I e3.Other,I e3.Amount,I e3.When.Op,str e3.When.Name,I e3.When.Day,.isl false (e3.When.Parts.map aa),I e3.Within,str e3.Repair]]⟩] 3):=by
     intro u20 hu
     replace h:=hy202 u20 hu
     exact rf [1,2,5,65] [1,2] (j7 _ (Option.some.inj h).symm :)
    have r20:∀r',y20=.inl r'→∀st,dC (c_1,i_2) r' st→(dC (c_1,i_2) r) st:=fun r' e st hq=>r7 r' (hy201 r' e) st hq
    replace h:=hy20
    refine sp 53 h rfl (fun h=>?_) fun h=>?_
    ·refine cq 13 [65] [B true] 403 ?_
     exact rf [1,2,5,65] [1,2] (j20 _ (Option.some.inj h).symm :)
    ·refine cq 7 [60] [B (e3.Party==e3.Other)] 323 ?_
     obtain⟨y21,hy21,hy211,hy212⟩:=bL h
     have j21:∀u21,y21=.inr u21→Run iD 0 (dC (c_1,i_2) r) (.code H5::.code (cR (cR (cR (cR (cR ks)))))::[]) (sT 119 [(1,I i_2),(2,.hp 1 0 [] 2 0 0),(5,.hp 2 0 [] 12 0 0),(65,B u21)] [⟨0,2,[.agg [.isl false (c_1.Parties.map str),.isl false (c_1.Clauses.map ac)]]⟩,⟨0,12,[.agg [str e3.Id,I e3.Kind,I e3.Party,str e3.Action,I e3.Other,I e3.Amount,I e3.When.Op,str e3.When.Name,I e3.When.Day,.isl false (e3.When.Parts.map aa),I e3.Within,str e3.Repair]]⟩] 3):=by
      intro u21 hu
      replace h:=hy212 u21 hu
      exact rf [1,2,5,65] [1,2] (j20 _ (Option.some.inj h).symm :)
     have r21:∀r',y21=.inl r'→∀st,dC (c_1,i_2) r' st→(dC (c_1,i_2) r) st:=fun r' e st hq=>r20 r' (hy211 r' e) st hq
     replace h:=hy21
     refine sp 60 h rfl (fun h=>?_) fun h=>?_
     ·refine cq 6 [65] [B true] 403 ?_
      exact rf [1,2,5,65] [1,2] (j21 _ (Option.some.inj h).symm :)
     ·refine cq 2 [62] [.agg [I e3.When.Op,str e3.When.Name,I e3.When.Day,.isl false (e3.When.Parts.map aa)]] 355 ?_
      obtain⟨r22,hr22,h⟩:=bS h
      refine oy 371 (B r22) rfl (cP (Zb hr22)) ?_
      refine cq 3 [65] [B (!r22)] 403 ?_
      exact rf [1,2,5,65] [1,2] (j21 _ (Option.some.inj h).symm :)
 have r5:∀r',y5=.inl r'→∀st,dC (c_1,i_2) r' st→(dC (c_1,i_2) r) st:=fun r' e st hq=>by rw[hy51 r' e] at hq;exact hq
 replace h:=hy5
 refine sp 21 h rfl (fun h=>?_) fun h=>?_
 ·refine cq 20 [40] [B true] 609 ?_
  exact rf [1,2,5,6,40] [1,113] (j5 _ (Option.some.inj h).symm :)
 ·refine cq 3 [22,24] [.agg [.isl false (c_1.Parties.map str),.isl false (c_1.Clauses.map ac)],str e3.Id] 353 ?_
  obtain⟨r23,hr23,h⟩:=bS h
  refine oy 369 (I r23) rfl (cP (UG hr23)) ?_
  refine cq 4 [29] [B (r23 != i_2)] 433 ?_
  obtain⟨y24,hy24,hy241,hy242⟩:=bL h
  have j24:∀u24,y24=.inr u24→Run iD 0 (dC (c_1,i_2) r) (.code (cR (cL (cR (cR (cR ks)))))::.code (cR (cR (cR (cR ks))))::[]) (sT 119 [(1,I i_2),(2,.hp 1 0 [] 2 0 0),(5,.hp 2 0 [] 12 0 0),(6,I (ar ((len c_1.Parties) - 1))),(40,B u24)] [⟨0,2,[.agg [.isl false (c_1.Parties.map str),.isl false (c_1.Clauses.map ac)]]⟩,⟨0,12,[.agg [str e3.Id,I e3.Kind,I e3.Party,str e3.Action,I e3.Other,I e3.Amount,I e3.When.Op,str e3.When.Name,I e3.When.Day,.isl false (e3.When.Parts.map aa),I e3.Within,str e3.Repair]]⟩] 3):=by
   intro u24 hu
   replace h:=hy242 u24 hu
   exact rf [1,2,5,6,40] [1,2] (j5 _ (Option.some.inj h).symm :)
  have r24:∀r',y24=.inl r'→∀st,dC (c_1,i_2) r' st→(dC (c_1,i_2) r) st:=fun r' e st hq=>r5 r' (hy241 r' e) st hq
  replace h:=hy24
  refine sp 29 h rfl (fun h=>?_) fun h=>?_
  ·refine cq 12 [40] [B true] 609 ?_
   exact rf [1,2,5,6,40] [1,113] (j24 _ (Option.some.inj h).symm :)
  ·refine cq 2 [31] [str e3.Action] 465 ?_
   obtain⟨r25,hr25,h⟩:=bS h
   refine oy 481 (B r25) rfl (cP (Dg hr25)) ?_
   refine cq 3 [35] [B (!r25)] 529 ?_
   obtain⟨y26,hy26,hy261,hy262⟩:=bL h
   have j26:∀u26,y26=.inr u26→Run iD 0 (dC (c_1,i_2) r) (.code (cR (cL (cR (cR (cR ks)))))::.code (cR (cR (cR (cR ks))))::[]) (sT 119 [(1,I i_2),(2,.hp 1 0 [] 2 0 0),(5,.hp 2 0 [] 12 0 0),(6,I (ar ((len c_1.Parties) - 1))),(40,B u26)] [⟨0,2,[.agg [.isl false (c_1.Parties.map str),.isl false (c_1.Clauses.map ac)]]⟩,⟨0,12,[.agg [str e3.Id,I e3.Kind,I e3.Party,str e3.Action,I e3.Other,I e3.Amount,I e3.When.Op,str e3.When.Name,I e3.When.Day,.isl false (e3.When.Parts.map aa),I e3.Within,str e3.Repair]]⟩] 3):=by
    intro u26 hu
    replace h:=hy262 u26 hu
    exact rf [1,2,5,6,40] [1,2] (j24 _ (Option.some.inj h).symm :)
   have r26:∀r',y26=.inl r'→∀st,dC (c_1,i_2) r' st→(dC (c_1,i_2) r) st:=fun r' e st hq=>r24 r' (hy261 r' e) st hq
   replace h:=hy26
   refine sp 35 h rfl (fun h=>?_) fun h=>?_
   ·refine cq 6 [40] [B true] 609 ?_
    exact rf [1,2,5,6,40] [1,113] (j26 _ (Option.some.inj h).symm :)
   ·refine cq 2 [37] [I e3.Kind] 561 ?_
    obtain⟨r27,hr27,h⟩:=bS h
    refine oy 577 (B r27) rfl (cP (gb hr27)) ?_
    refine cq 3 [40] [B (!r27)] 609 ?_
    exact rf [1,2,5,6,40] [1,113] (j26 _ (Option.some.inj h).symm :)
theorem Sz {G:Go.Ln.Ground}:aH Tryz.prog G 124 EG:=gT 2 0 (aB rV (aB gx (aB R6 (aB TZ bc)))) (Checked.mixed Tryz.checked) Tryz.func124 (fun a r h=>VY a.1 a.2 r h)
def AN:(Condition×(List ah))→List V:=cA aP (oA (Ck 1 str))
def CK (r:(List ah)):V×List V:=(.usl 1 (r.map str),[.dead])
noncomputable def yk (slf_Fff:(Condition×(List ah))→Option (List ah)):Ent:=aO [false,true] AN CK slf_Fff
theorem NX (slf_Fff:(Condition×(List ah))→Option (List ah)){x}{r}(h:slf_Fff x=some r):(yk slf_Fff).F (AN x)=some (CK r):=aA (aU cb (az (oD bf))) h
noncomputable def E9:Ent:=yk (aE md)
theorem Uk {c_3:Condition}{list_4:List ah}{r}(h:O0 c_3 list_4=some r):E9.F (AN (c_3,list_4))=some (CK r):=NX (aE md) h
noncomputable def My:Code:=ay Tryz.f186
noncomputable def GO (slf_Fff:(Condition×(List ah))→Option (List ah)):Env:=bG Tryz.prog [(186,(yk slf_Fff))]
def C0 (slf_Fff:(Condition×(List ah))→Option (List ah))(x:Condition×(List ah))(r:(List ah)):St→Prop:=QF (GO slf_Fff) Tryz.f186 [false,true] (AN x) (CK r)
theorem Ly (slf_Fff:(Condition×(List ah))→Option (List ah))(c_3:Condition)(list_4:List ah):cl (GO slf_Fff) 1 (C0 slf_Fff (c_3,list_4)) (cL (cL (cR (cL (cR (cR My)))))) 0 (lU slf_Fff c_3 list_4) (fun u=>(sO 27 [(1,.hs 2 0 [] 1 0 (u.map str).length)] [none,some ⟨0,1,u.map str⟩] 3)) fun x4=>(sO 27 [(1,.hs 2 0 [] 1 0 (x4.2.map str).length),(16,.isl false (c_3.Parts.map aa)),(17,I (len c_3.Parts)),(18,I x4.1)] [none,some ⟨0,1,x4.2.map str⟩] 3):=d5 (CO slf_Fff c_3 list_4) fun {Q K} hK self ih x4 y h hr hn=>by
 unfold jT at h
 refine cq 5 [19] [B (decide (x4.1<(len c_3.Parts)))] 19 ?_
 refine sq h (fun h=>?_) fun h=>?_
 ·refine aq 1 ?_
  refine aq 4 ?_
  obtain⟨e5,he5,h⟩:=bS h
  refine oq 35 (.iptr (.agg [I e5.Op,str e5.Name,I e5.Day,.isl false (e5.Parts.map aa)]) 0) rfl (al rfl rfl rfl (aM rfl rfl (bb e5) rfl he5)) ?_
  refine ck 2 [6,21] [] [51] [] [.hp 51 0 [] 4 0 0,.agg [I e5.Op,str e5.Name,I e5.Day,.isl false (e5.Parts.map aa)]] [some ⟨0,4,[.agg [I (0),str ([]),I (0),.isl true []]]⟩] 67 (by kernel_rfl) ?_
  refine eb 51 [.agg [I (0),str ([]),I (0),.usl 4 (([]).map ap)]] rfl rfl (au (eU (au (.refl _) (au (.refl _) (au (.refl _) (au (.nil _) dm))))) dm) ?_
  refine ck 5 [22,23] [] [51] [] [.agg [I e5.Op,str e5.Name,I e5.Day,.isl false (e5.Parts.map aa)],.hs 2 0 [] 1 0 (x4.2.map str).length] [some ⟨2,4,[.agg [I e5.Op,str e5.Name,I e5.Day,.isl false (e5.Parts.map aa)]]⟩] 115 (by kernel_rfl) ?_
  obtain⟨r6,hr6,h⟩:=bS h
  refine oq 131 (.hs 115 0 [] 1 0 (r6.map str).length) rfl (bT rfl rfl (ci rfl rfl rfl (bh (bE rfl) (tx (pC rfl (kF (path:=[]) rfl rfl aN rfl)) cz)) (NX slf_Fff hr6) (.inr rfl) (sP rfl rfl rfl ls dA) rfl rfl rfl)) ?_
  refine cq 7 [1,18] [.hs 115 0 [] 1 0 (r6.map str).length,I (ar (x4.1+1))] 179 ?_
  refine cS ?_
  exact rg [1,16,17,18] [180,115] (ih _ _ h hr hn :)
 ·refine aq 1 ?_
  exact rg [1] [20,2] (hn _ (Option.some.inj h).symm :) (hk:=hK)
theorem UU (slf_Fff:(Condition×(List ah))→Option (List ah))(c_3:Condition)(list_4:List ah)(r:(List ah))(h:vD slf_Fff c_3 list_4=some r):ba (GO slf_Fff) Tryz.f186 [false,true] 1 (AN (c_3,list_4)) (CK r):=by
 show Run _ _ (C0 slf_Fff (c_3,list_4) r) [.code My] _
 refine rI 27 [(0,.agg [I c_3.Op,str c_3.Name,I c_3.Day,.isl false (c_3.Parts.map aa)]),(1,.hs 1 0 [] 1 0 (list_4.map str).length)] [(1,some ⟨0,1,list_4.map str⟩)] 2 ?_
 unfold vD at h
 refine ck 12 [2,9] [] [2] [] [.hp 2 0 [] 4 0 0,B (c_3.Op==2)] [some ⟨0,4,[.agg [I c_3.Op,str c_3.Name,I c_3.Day,.isl false (c_3.Parts.map aa)]]⟩] 82 (by kernel_rfl) ?_
 obtain⟨y3,hy3,hy31,hy32⟩:=bJ h
 have j3:∀u3,y3=.inr u3→Run (GO slf_Fff) 1 (C0 slf_Fff (c_3,list_4) r) (.code (cR (cR My))::[]) (sO 27 [(1,.hs 2 0 [] 1 0 (u3.map str).length),(2,.hp 3 0 [] 4 0 0)] [none,some ⟨0,1,u3.map str⟩,some ⟨0,4,[.agg [I c_3.Op,str c_3.Name,I c_3.Day,.isl false (c_3.Parts.map aa)]]⟩] 4):=by
  intro u3 hu
  replace h:=hy32 u3 hu
  refine cq 5 [16] [.isl false (c_3.Parts.map aa)] 36 ?_
  refine oq 52 (I (len c_3.Parts)) rfl (aZ rfl rfl rfl (bg rfl)) ?_
  refine cq 3 [18] [I (0)] 68 ?_
  obtain⟨y7,hy7,hy71,hy72⟩:=bJ h
  refine bW rfl ?_
  refine rg [1,16,17,18] [69,2] (Ly slf_Fff c_3 list_4 rfl (0,u3) _ hy7 (fun r' e st hq=>by rw[hy71 r' e] at hq;exact hq) fun u7 hu=>?_)
  replace h:=hy72 u7 hu
  refine cq 5 [4] [.hs 2 0 [] 1 0 (u7.map str).length] 35 ?_
  obtain rfl:=Option.some.inj h
  exact ai rfl ⟨_,fin (vs:=[.hs 2 0 [] 1 0 (u7.map str).length]) rfl (ez (d7 rfl (cf rfl rfl)) dP) rfl (d8 (sV rfl (oh rfl) eB)),te ey⟩
 have r3:∀r',y3=.inl r'→∀st,C0 slf_Fff (c_3,list_4) r' st→(C0 slf_Fff (c_3,list_4) r) st:=fun r' e st hq=>by rw[hy31 r' e] at hq;exact hq
 replace h:=hy3
 refine sq h (fun h=>?_) fun h=>?_
 ·refine cq 4 [10,12] [.hs 1 0 [] 1 0 (list_4.map str).length,str c_3.Name] 130 ?_
  refine oq 146 (.hs 130 0 [] 1 0 1) rfl (eC rfl (na (f:=I) (xs:=[]) (z:=str ([])) (es:=[str c_3.Name]) (ws:=[str c_3.Name]) rfl rfl rfl (by decide) rfl (dK rfl) rfl)) ?_
  obtain⟨a8,ha8,h⟩:=bS h
  refine oq 162 (.hs 146 0 [] 1 0 (a8.map str).length) rfl (js rfl rfl rfl rfl rfl (nH (path:=[]) (f:=str) (xs:=list_4) (ys:=[c_3.Name]) rfl rfl (EX rfl rfl rfl) rfl rfl rfl aN rfl (by decide) ix ha8 rfl oV)) ?_
  refine cq 2 [1] [.hs 146 0 [] 1 0 (a8.map str).length] 178 ?_
  exact rg [1,2] [179,146,2] (j3 _ (Option.some.inj h).symm :)
 ·refine aq 1 ?_
  exact rg [1,2] [83,1,2] (j3 _ (Option.some.inj h).symm :)
theorem Ts {G:Go.Ln.Ground}:aH Tryz.prog G 186 E9:=gK fun slf_Fff g_Fff=>gT 2 1 (aB g_Fff bc) (Checked.mixed Tryz.checked) Tryz.func186 (fun a r h=>UU slf_Fff a.1 a.2 r h)
def H0:Shelf.Ren:=⟨fun | 190=>219 | 125=>211 | 258=>243 | 128=>239 | 129=>240 | 302=>255 | 303=>256 | 304=>257 | 305=>258 | 306=>259 | 307=>260 | 308=>261 | 309=>262 | 310=>263 | 333=>273 | 329=>251 | 330=>252 | 334=>274 | 335=>275 | 336=>242 | 344=>285 | n=>n,fun | 31=>22 | 9=>9 | 3=>3 | 46=>205 | 0=>0 | 51=>225 | 53=>227 | 4=>4 | 183=>219 | 182=>218 | 131=>58 | 5=>5 | 218=>232 | 222=>236 | 228=>252 | 229=>253 | n=>n,fun | n=>n⟩
theorem Tv:Go.Proofs.Lays.n190 Tryz.prog H0 where
 mixed:=by kernel_rfl
 f125:=Tryz.func211.trans (congrArg some (by kernel_rfl))
 f128:=Tryz.func239.trans (congrArg some (by kernel_rfl))
 f129:=Tryz.func240.trans (congrArg some (by kernel_rfl))
 f190:=Tryz.func219.trans (congrArg some (by kernel_rfl))
 f258:=Tryz.func243.trans (congrArg some (by kernel_rfl))
 f302:=Tryz.func255.trans (congrArg some (by kernel_rfl))
 f303:=Tryz.func256.trans (congrArg some (by kernel_rfl))
 f304:=Tryz.func257.trans (congrArg some (by kernel_rfl))
 f305:=Tryz.func258.trans (congrArg some (by kernel_rfl))
 f306:=Tryz.func259.trans (congrArg some (by kernel_rfl))
 f307:=Tryz.func260.trans (congrArg some (by kernel_rfl))
 f308:=Tryz.func261.trans (congrArg some (by kernel_rfl))
 f309:=Tryz.func262.trans (congrArg some (by kernel_rfl))
 f310:=Tryz.func263.trans (congrArg some (by kernel_rfl))
 f329:=Tryz.func251.trans (congrArg some (by kernel_rfl))
 f330:=Tryz.func252.trans (congrArg some (by kernel_rfl))
 f333:=Tryz.func273.trans (congrArg some (by kernel_rfl))
 f334:=Tryz.func274.trans (congrArg some (by kernel_rfl))
 f335:=Tryz.func275.trans (congrArg some (by kernel_rfl))
 f336:=Tryz.func242.trans (congrArg some (by kernel_rfl))
 f344:=Tryz.func285.trans (congrArg some (by kernel_rfl))
 t0:=Tryz.underlying0
 a0:=Tryz.isAgg0
 z0:=Tryz.sizeOf0
 v0:=Tryz.zeroValue0
 t3:=Tryz.underlying3
 a3:=Tryz.isAgg3
 z3:=Tryz.sizeOf3
 v3:=Tryz.zeroValue3
 t4:=Tryz.underlying4
 a4:=Tryz.isAgg4
 z4:=Tryz.sizeOf4
 v4:=Tryz.zeroValue4
 t5:=Tryz.underlying5
 a5:=Tryz.isAgg5
 z5:=Tryz.sizeOf5
 v5:=Tryz.zeroValue5
 t9:=Tryz.underlying9
 a9:=Tryz.isAgg9
 z9:=Tryz.sizeOf9
 v9:=Tryz.zeroValue9
 t31:=Tryz.underlying22
 a31:=Tryz.isAgg22
 z31:=Tryz.sizeOf22
 v31:=Tryz.zeroValue22
 t46:=Tryz.underlying205
 a46:=Tryz.isAgg205
 z46:=Tryz.sizeOf205
 v46:=Tryz.zeroValue205
 t51:=Tryz.underlying225
 a51:=Tryz.isAgg225
 z51:=Tryz.sizeOf225
 v51:=Tryz.zeroValue225
 t53:=Tryz.underlying227
 a53:=Tryz.isAgg227
 z53:=Tryz.sizeOf227
 v53:=Tryz.zeroValue227
 t131:=Tryz.underlying58
 a131:=Tryz.isAgg58
 z131:=Tryz.sizeOf58
 v131:=Tryz.zeroValue58
 t182:=Tryz.underlying218
 a182:=Tryz.isAgg218
 z182:=Tryz.sizeOf218
 v182:=Tryz.zeroValue218
 t183:=Tryz.underlying219
 a183:=Tryz.isAgg219
 z183:=Tryz.sizeOf219
 v183:=Tryz.zeroValue219
 t218:=Tryz.underlying232
 a218:=Tryz.isAgg232
 z218:=Tryz.sizeOf232
 v218:=Tryz.zeroValue232
 t222:=Tryz.underlying236
 a222:=Tryz.isAgg236
 z222:=Tryz.sizeOf236
 v222:=Tryz.zeroValue236
 t228:=Tryz.underlying252
 a228:=Tryz.isAgg252
 z228:=Tryz.sizeOf252
 v228:=Tryz.zeroValue252
 t229:=Tryz.underlying253
 a229:=Tryz.isAgg253
 z229:=Tryz.sizeOf253
 v229:=Tryz.zeroValue253
noncomputable def sj:Ent:=aO [true] (oA (Ck 1 str)) (fun r=>(.tup [],[.usl 1 (r.map str)])) qM
theorem Tp {l:List ah}{r}(h:qM l=some r):sj.F [.usl 1 (l.map str)]=some (.tup [],[.usl 1 (r.map str)]):=aA (ea:=oA (Ck 1 str)) (az (oD bf)) h
theorem Ke {G:Go.Ln.Ground}:aH Tryz.prog G 219 sj:=Md Tv
def AQ:(List ah)→List V:=oA (Ck 1 str)
def Ct (r:(List ah)):V×List V:=(.usl 1 (r.map str),[.dead])
noncomputable def xq:Ent:=aO [true] AQ Ct fun x=>xZ x
theorem Wr {s_2:List ah}{r}(h:xZ s_2=some r):xq.F (AQ s_2)=some (Ct r):=aA (az (oD bf)) h
noncomputable def Iq:Code:=ay Tryz.f220
noncomputable abbrev EK:Code:=cL (cL (cR (cL (cR (cL (cR (cL (cL (cR (cL (cL (cR (cL (cR (cR Iq)))))))))))))))
noncomputable def uj:Env:=bG Tryz.prog []
def Dr (x:(List ah))(r:(List ah)):St→Prop:=QF uj Tryz.f220 [true] (AQ x) (Ct r)
theorem JF (s_2:List ah)(x2:Int):cl uj 1 (Dr s_2) EK 2 (jc s_2 x2) (fun u=>(sO 61 [(0,.hs 2 0 [] 1 0 (u.2.map str).length),(3,I u.1)] [none,some ⟨0,1,u.2.map str⟩] 3)) fun x6=>(sO 61 [(0,.hs 2 0 [] 1 0 (x6.2.2.map str).length),(3,I x6.1),(4,.hs 2 0 [] 1 (0+Int.toNat x2) (Int.toNat (len s_2) - Int.toNat x2)),(5,I x6.2.1)] [none,some ⟨0,1,x6.2.2.map str⟩] 3):=d5 (we s_2 x2) fun {Q K} hK self ih x6 y h hr hn=>by
 unfold jO at h
 refine cq 8 [32] [B (decide (x6.2.1<(((Int.toNat (len s_2) - Int.toNat x2):Nat):Int)))] 67 ?_
 refine sq h (fun h=>?_) fun h=>?_
 ·refine aq 1 ?_
  refine aq 3 ?_
  refine dN [0,0,3,7,0,0,32,112,240,511] rfl (by decide +kernel) ?_
  refine dk 2 [36,35] [I x6.2.1,.hs 2 0 [] 1 (0+Int.toNat x2) (Int.toNat (len s_2) - Int.toNat x2)] ?_
  obtain⟨e7,he7,h⟩:=bS h
  refine dq [2] [] (.hp 2 0 [] 1 ((0+Int.toNat x2)+Int.toNat x6.2.1) 0) rfl (al rfl rfl rfl (LO (xs:=x6.2.2) rfl rfl he7)) ?_
  refine dq [2] [] (str e7) rfl (aL rfl (pG (path:=[]) rfl rfl rfl aN (Hl (f:=str) (xs:=x6.2.2) he7) rfl rfl rfl)) ?_
  refine dk 3 [41,40,39] [I (ar (x6.2.1 - 1)),I x6.2.1,.hs 2 0 [] 1 (0+Int.toNat x2) (Int.toNat (len s_2) - Int.toNat x2)] ?_
  obtain⟨e8,he8,h⟩:=bS h
  refine dq [2] [] (.hp 2 0 [] 1 ((0+Int.toNat x2)+Int.toNat (ar (x6.2.1 - 1))) 0) rfl (al rfl rfl rfl (LO (xs:=x6.2.2) rfl rfl he8)) ?_
  refine dq [2] [] (str e8) rfl (aL rfl (pG (path:=[]) rfl rfl rfl aN (Hl (f:=str) (xs:=x6.2.2) he8) rfl rfl rfl)) ?_
  refine dk 1 [44] [B (!(e7==e8))] ?_
  refine de 227 rfl rfl ?_
  obtain⟨y9,hy9,hy91,hy92⟩:=bL h
  have j9:∀u9,y9=.inr u9→Run uj 1 Q (.blk 3::.code (cR (cR EK))::.lp EK::.blk 2::K) (sO 61 [(0,.hs 2 0 [] 1 0 (u9.2.map str).length),(3,I u9.1),(4,.hs 2 0 [] 1 (0+Int.toNat x2) (Int.toNat (len s_2) - Int.toNat x2)),(5,I x6.2.1)] [none,some ⟨0,1,u9.2.map str⟩] 3):=by
   intro u9 hu
   replace h:=hy92 u9 hu
   refine cq 6 [5] [I (ar (x6.2.1+1))] 51 ?_
   refine cS ?_
   exact rg [0,3,4,5] [52,2] (ih _ _ h hr hn :)
  have r9:∀r',y9=.inl r'→∀st,Dr s_2 r' st→Q st:=fun r' e st hq=>hr r' (hy91 r' e) st hq
  replace h:=hy9
  refine sq h (fun h=>?_) fun h=>?_
  ·refine cq 6 [45,46,47,48] [.hs 2 0 [] 1 0 (x6.2.2.map str).length,I x6.1,.hs 2 0 [] 1 (0+Int.toNat x2) (Int.toNat (len s_2) - Int.toNat x2),I x6.2.1] 291 ?_
   obtain⟨e10,he10,h⟩:=bS h
   refine oq 307 (.hp 2 0 [] 1 ((0+Int.toNat x2)+Int.toNat x6.2.1) 0) rfl (al rfl rfl rfl (LO (xs:=x6.2.2) rfl rfl he10)) ?_
   refine oq 323 (str e10) rfl (aL rfl (pG (path:=[]) rfl rfl rfl aN (Hl (f:=str) (xs:=x6.2.2) he10) rfl rfl rfl)) ?_
   obtain⟨e11,he11,h⟩:=bS h
   refine oq 339 (.hp 2 0 [] 1 (0+Int.toNat x6.1) 0) rfl (al rfl rfl rfl (hY (f:=str) (xs:=x6.2.2) rfl rfl rfl he11)) ?_
   refine o0 355 rfl rfl (fD rfl rfl (eA (path:=[]) (pl:=true) (e':=str e10) (es2':=(eM x6.2.2 x6.1 e10).map str) rfl (eQ rfl) rfl rfl rfl aN (f9 (f:=str) (xs:=x6.2.2) he11) rfl rfl rfl (lO (f:=str) (xs:=x6.2.2) (y:=e10)) du 0 rfl)) ?_
   try rw[←jo (f:=str) (xs:=x6.2.2) (i:=x6.1) (z:=e10)]
   refine cq 6 [3] [I (ar (x6.1+1))] 403 ?_
   exact rg [0,3,4,5] [404,2] (j9 _ (Option.some.inj h).symm :)
  ·refine aq 1 ?_
   exact rg [0,3,4,5] [228,2] (j9 _ (Option.some.inj h).symm :)
 ·refine aq 1 ?_
  exact rg [0,3] [68,2] (hn _ (Option.some.inj h).symm :) (hk:=hK)
theorem JT (s_2:List ah):cl uj 1 (Dr s_2) (cL (cL (cR (cL (cR (cR Iq)))))) 0 (oK s_2) (fun u=>(sO 61 [(0,.hs 2 0 [] 1 0 (u.map str).length)] [none,some ⟨0,1,u.map str⟩] 3)) fun x2=>(sO 61 [(0,.hs 2 0 [] 1 0 (s_2.map str).length),(3,I x2)] [none,some ⟨0,1,s_2.map str⟩] 3):=d5 (wY s_2) fun {Q K} hK self ih x2 y h hr hn=>by
 unfold jL at h
 refine cq 5 [10,11] [I x2,.hs 2 0 [] 1 0 (s_2.map str).length] 35 ?_
 refine oq 51 (I (len s_2)) rfl (aZ rfl rfl rfl (vF (f:=str) (xs:=s_2) rfl rfl)) ?_
 refine cq 2 [13] [B (decide (x2<(len s_2)))] 67 ?_
 refine sq h (fun h=>?_) fun h=>?_
 ·refine aq 1 ?_
  refine aq 3 ?_
  refine dN [0,0,3,7,0,0,32,112,240,511] rfl (by decide +kernel) ?_
  refine dk 2 [17,16] [I x2,.hs 2 0 [] 1 0 (s_2.map str).length] ?_
  obtain⟨e3,he3,h⟩:=bS h
  refine dq [2] [] (.hp 2 0 [] 1 (0+Int.toNat x2) 0) rfl (al rfl rfl rfl (hY (f:=str) (xs:=s_2) rfl rfl rfl he3)) ?_
  refine dq [2] [] (str e3) rfl (aL rfl (pG (path:=[]) rfl rfl rfl aN (f9 (f:=str) (xs:=s_2) he3) rfl rfl rfl)) ?_
  refine dk 3 [22,21,20] [I (ar (x2 - 1)),I x2,.hs 2 0 [] 1 0 (s_2.map str).length] ?_
  obtain⟨e4,he4,h⟩:=bS h
  refine dq [2] [] (.hp 2 0 [] 1 (0+Int.toNat (ar (x2 - 1))) 0) rfl (al rfl rfl rfl (hY (f:=str) (xs:=s_2) rfl rfl rfl he4)) ?_
  refine dq [2] [] (str e4) rfl (aL rfl (pG (path:=[]) rfl rfl rfl aN (f9 (f:=str) (xs:=s_2) he4) rfl rfl rfl)) ?_
  refine dk 1 [25] [B (e3==e4)] ?_
  refine de 227 rfl rfl ?_
  refine sq h (fun h=>?_) fun h=>?_
  ·refine cq 4 [26,27] [.hs 2 0 [] 1 0 (s_2.map str).length,I x2] 259 ?_
   obtain⟨s5,hs5,h⟩:=bS h
   refine oq 275 (.hs 2 0 [] 1 (0+Int.toNat x2) (Int.toNat (len s_2) - Int.toNat x2)) rfl (gt rfl rfl rfl rfl (qW (f:=str) (xs:=s_2) rfl rfl rfl rfl (SV rfl) hs5)) ?_
   refine cq 8 [4,5] [.hs 2 0 [] 1 (0+Int.toNat x2) (Int.toNat (len s_2) - Int.toNat x2),I (1)] 307 ?_
   obtain⟨y15,hy15,hy151,hy152⟩:=bL h
   refine bW rfl ?_
   refine rg [0,3,4,5] [308,2] (JF s_2 x2 rfl (x2,1,s_2) _ hy15 (fun r' e st hq=>hr r' (hy151 r' e) st hq) fun u15 hu=>?_)
   replace h:=hy152 u15 hu
   refine cq 4 [54,55] [.hs 2 0 [] 1 0 (u15.2.map str).length,I u15.1] 35 ?_
   obtain⟨s16,hs16,h⟩:=bS h
   refine oq 51 (.hs 2 0 [] 1 (0+Int.toNat u15.1) (Int.toNat (len u15.2) - Int.toNat u15.1)) rfl (gt rfl rfl rfl rfl (qW (f:=str) (xs:=u15.2) rfl rfl rfl rfl (SV rfl) hs16)) ?_
   obtain⟨k17,hk17,h⟩:=bS h
   refine o0 67 rfl rfl (Vv rfl rfl (YQ (f:=str) (xs:=u15.2) (z0:=[]) rfl rfl rfl rfl (by decide) kO hk17)) ?_
   try rw[show (u15.2.map str).length=(k17.map str).length from VP hk17]
   refine cq 5 [57,58] [.hs 2 0 [] 1 0 (k17.map str).length,I u15.1] 99 ?_
   obtain⟨s18,hs18,h⟩:=bS h
   refine oq 115 (.hs 2 0 [] 1 (0+Int.toNat (0)) (Int.toNat u15.1 - Int.toNat (0))) rfl (gt rfl rfl rfl rfl (qW (f:=str) (xs:=k17) rfl rfl rfl rfl rfl hs18)) ?_
   refine cq 2 [2] [.hs 2 0 [] 1 (0+Int.toNat (0)) (Int.toNat u15.1 - Int.toNat (0))] 131 ?_
   obtain⟨p19,hp19,h⟩:=bS h
   exact ai rfl (hr _ (Option.some.inj h).symm _ ⟨_,fin (vs:=[.hs 2 0 [] 1 (0+Int.toNat (0)) (Int.toNat u15.1 - Int.toNat (0))]) rfl (ez (d7 rfl (N6 (path:=[]) (f:=str) (xs:=k17) rfl rfl aN hp19 rfl oV)) dP) rfl (sV rfl (oh rfl) eB),te ey⟩)
  ·refine aq 1 ?_
   refine cq 6 [3] [I (ar (x2+1))] 275 ?_
   refine cS ?_
   exact rg [0,3] [276,2] (ih _ _ h hr hn :)
 ·refine aq 1 ?_
  exact rg [0] [68,2] (hn _ (Option.some.inj h).symm :) (hk:=hK)
theorem Sv (s_2:List ah)(r:(List ah))(h:xZ s_2=some r):ba uj Tryz.f220 [true] 1 (AQ s_2) (Ct r):=by
 show Run _ _ (Dr s_2 r) [.code Iq] _
 refine rI 61 [(0,.hs 1 0 [] 1 0 (s_2.map str).length)] [(1,some ⟨0,1,s_2.map str⟩)] 2 ?_
 unfold xZ at h
 refine cq 8 [6] [.hs 1 0 [] 1 0 (s_2.map str).length] 34 ?_
 refine oq 50 (I (len s_2)) rfl (aZ rfl rfl rfl (vF (f:=str) (xs:=s_2) rfl rfl)) ?_
 refine cq 2 [8] [B (decide ((len s_2)<2))] 66 ?_
 refine sq h (fun h=>?_) fun h=>?_
 ·refine cq 5 [2] [.hs 1 0 [] 1 0 (s_2.map str).length] 98 ?_
  obtain rfl:=Option.some.inj h
  exact ai rfl ⟨_,fin (vs:=[.hs 1 0 [] 1 0 (s_2.map str).length]) rfl (ez (d7 rfl (cf rfl rfl)) dP) rfl (sV rfl (oh rfl) eB),te ey⟩
 ·refine aq 1 ?_
  refine cq 6 [3] [I (1)] 82 ?_
  obtain⟨y20,hy20,hy201,hy202⟩:=bJ h
  refine bW rfl ?_
  refine rg [0,3] [83,1] (JT s_2 rfl 1 _ hy20 (fun r' e st hq=>by rw[hy201 r' e] at hq;exact hq) fun u20 hu=>?_)
  replace h:=hy202 u20 hu
  refine cq 5 [2] [.hs 2 0 [] 1 0 (u20.map str).length] 35 ?_
  obtain rfl:=Option.some.inj h
  exact ai rfl ⟨_,fin (vs:=[.hs 2 0 [] 1 0 (u20.map str).length]) rfl (ez (d7 rfl (cf rfl rfl)) dP) rfl (sV rfl (oh rfl) eB),te ey⟩
theorem QS {G:Go.Ln.Ground}:aH Tryz.prog G 220 xq:=gT 1 1 bc (Checked.mixed Tryz.checked) Tryz.func220 (fun a r h=>Sv a r h)
def Dt:(List ah)→List V:=oA (Ck 1 str)
def Al (r:(List ah)):V×List V:=(.usl 1 (r.map str),[.dead])
noncomputable def xX:Ent:=aO [true] Dt Al fun x=>zT x
theorem Xr {list_5:List ah}{r}(h:zT list_5=some r):xX.F (Dt list_5)=some (Al r):=aA (az (oD bf)) h
noncomputable def XP:Code:=ay Tryz.f187
noncomputable def M4:Env:=bG Tryz.prog [(219,sj),(220,xq)]
def Xa (x:(List ah))(r:(List ah)):St→Prop:=QF M4 Tryz.f187 [true] (Dt x) (Al r)
theorem RY (list_5:List ah)(r:(List ah))(h:zT list_5=some r):ba M4 Tryz.f187 [true] 1 (Dt list_5) (Al r):=by
 show Run _ _ (Xa list_5 r) [.code XP] _
 refine rI 7 [(0,.hs 1 0 [] 1 0 (list_5.map str).length)] [(1,some ⟨0,1,list_5.map str⟩)] 2 ?_
 unfold zT at h
 refine cq 7 [3] [.hs 1 0 [] 1 0 (list_5.map str).length] 34 ?_
 obtain⟨r2,hr2,h⟩:=bS h
 obtain⟨g3,h⟩:=gG h
 refine oq 50 (.tup []) rfl (bT rfl rfl (ci rfl rfl rfl (tx (pC rfl (kF (path:=[]) rfl rfl aN rfl)) cz) (Tp hr2) (.inr rfl) (sP rfl rfl rfl rfl dA) rfl rfl rfl)) ?_
 try rw[VV (f:=str) (xs:=list_5) (ys:=r2) g3]
 refine cq 4 [5] [.hs 1 0 [] 1 0 (r2.map str).length] 66 ?_
 obtain⟨r4,hr4,h⟩:=bS h
 refine oq 82 (.hs 66 0 [] 1 0 (r4.map str).length) rfl (bT rfl rfl (ci rfl rfl rfl (tx (pC rfl (kF (path:=[]) rfl rfl aN rfl)) cz) (Wr hr4) (.inr rfl) (sP rfl rfl rfl ls dA) rfl rfl rfl)) ?_
 refine cq 2 [2] [.hs 66 0 [] 1 0 (r4.map str).length] 98 ?_
 obtain rfl:=Option.some.inj h
 exact ai rfl ⟨_,fin (vs:=[.hs 66 0 [] 1 0 (r4.map str).length]) rfl (ez (d7 rfl (cf rfl rfl)) dP) rfl (sV rfl (oh rfl) eB),te ey⟩
theorem Nd {G:Go.Ln.Ground}:aH Tryz.prog G 187 xX:=gT 1 1 (aB Ke (aB QS bc)) (Checked.mixed Tryz.checked) Tryz.func187 (fun a r h=>RY a r h)
def Gi:Contract→List V:=oA aG
def GV (r:(List ah)):V×List V:=(.usl 1 (r.map str),[])
noncomputable def qA:Ent:=aO [false] Gi GV fun x=>tA x
theorem GA {c_1:Contract}{r}(h:tA c_1=some r):qA.F (Gi c_1)=some (GV r):=aA (az aQ) h
noncomputable def Ur:Code:=ay Tryz.f125
noncomputable def LR:Env:=bG Tryz.prog [(186,E9),(187,xX)]
def Ux (x:Contract)(r:(List ah)):St→Prop:=QF LR Tryz.f125 [false] (Gi x) (GV r)
theorem Mc (c_1:Contract):cl LR 0 (Ux c_1) (cL (cL (cR (cL (cR (cR Ur)))))) 0 (nt c_1) (fun u=>(sT 25 [(3,.hs 1 0 [] 1 0 (u.map str).length)] [⟨0,1,u.map str⟩] 2)) fun x2=>(sT 25 [(3,.hs 1 0 [] 1 0 (x2.2.map str).length),(8,.isl false (c_1.Clauses.map ac)),(9,I (len c_1.Clauses)),(10,I x2.1)] [⟨0,1,x2.2.map str⟩] 2):=d5 (Bm c_1) fun {Q K} hK self ih x2 y h hr hn=>by
 unfold kY at h
 refine cq 5 [11] [B (decide (x2.1<(len c_1.Clauses)))] 18 ?_
 refine sq h (fun h=>?_) fun h=>?_
 ·refine aq 1 ?_
  refine aq 4 ?_
  obtain⟨e3,he3,h⟩:=bS h
  refine oq 34 (.iptr (.agg [str e3.Id,I e3.Kind,I e3.Party,str e3.Action,I e3.Other,I e3.Amount,I e3.When.Op,str e3.When.Name,I e3.When.Day,.isl false (e3.When.Parts.map aa),I e3.Within,str e3.Repair]) 0) rfl (al rfl rfl rfl (aM rfl rfl rfl rfl he3)) ?_
  refine ck 2 [5,13] [] [50] [] [.hp 50 0 [] 12 0 0,.agg [str e3.Id,I e3.Kind,I e3.Party,str e3.Action,I e3.Other,I e3.Amount,I e3.When.Op,str e3.When.Name,I e3.When.Day,.isl false (e3.When.Parts.map aa),I e3.Within,str e3.Repair]] [some ⟨0,12,[.agg [str ([]),I (0),I (0),str ([]),I (0),I (0),I (0),str ([]),I (0),.isl true [],I (0),str ([])]]⟩] 66 (by kernel_rfl) ?_
  refine eb 50 [.agg [str ([]),I (0),I (0),str ([]),I (0),I (0),I (0),str ([]),I (0),.usl 4 (([]).map ap),I (0),str ([])]] rfl rfl (au (eU (au (.refl _) (au (.refl _) (au (.refl _) (au (.refl _) (au (.refl _) (au (.refl _) (au (.refl _) (au (.refl _) (au (.refl _) (au (.nil _) (au (.refl _) (au (.refl _) dm))))))))))))) dm) ?_
  refine ck 2 [] [] [50] [] [] [some ⟨2,12,[.agg [str e3.Id,I e3.Kind,I e3.Party,str e3.Action,I e3.Other,I e3.Amount,I e3.When.Op,str e3.When.Name,I e3.When.Day,.isl false (e3.When.Parts.map aa),I e3.Within,str e3.Repair]]⟩] 82 (by kernel_rfl) ?_
  refine dN [0,1,0,0,8,24,60,127,255] rfl (by decide +kernel) ?_
  refine dq [50] [] (.hp 50 0 [] 12 0 6) rfl (ak rfl rfl rfl) ?_
  refine dq [50] [] (.agg [I e3.When.Op,str e3.When.Name,I e3.When.Day,.isl false (e3.When.Parts.map aa)]) rfl (aL rfl rfl) ?_
  refine dk 1 [16] [.hs 1 0 [] 1 0 (x2.2.map str).length] ?_
  refine dq [50] [] (.hp 50 0 [] 12 0 3) rfl (ak rfl rfl rfl) ?_
  refine dq [50] [] (str e3.Action) rfl (aL rfl rfl) ?_
  refine dq [] [] (.hs 162 0 [] 1 0 1) rfl (eC rfl (na (f:=I) (xs:=[]) (z:=str ([])) (es:=[str e3.Action]) (ws:=[str e3.Action]) rfl rfl rfl (by decide) rfl (dK rfl) rfl)) ?_
  obtain⟨a4,ha4,h⟩:=bS h
  refine dq [1,162] [1] (.hs 178 0 [] 1 0 (a4.map str).length) rfl (js rfl rfl rfl rfl rfl (nH (path:=[]) (f:=str) (xs:=x2.2) (ys:=[e3.Action]) rfl rfl (EX rfl rfl rfl) rfl rfl rfl aN rfl (by decide) ix ha4 rfl oV)) ?_ (Gm rfl (G9 (path:=[]) (f:=str) (xs:=[e3.Action]) rfl rfl aN kO rfl))
  obtain⟨r5,hr5,h⟩:=bS h
  refine dq [178] [178] (.hs 194 0 [] 1 0 (r5.map str).length) rfl (bT rfl rfl (ci rfl rfl rfl (bh (bE rfl) (tx (pC rfl (kF (path:=[]) rfl rfl aN rfl)) cz)) (Uk hr5) (.inr rfl) (sP rfl rfl rfl ls dA) rfl rfl rfl)) ?_ (ct rfl rfl rfl rfl (bh (bE rfl) (tx (pC rfl (kF (path:=[]) rfl rfl aN rfl)) cz)) (Uk hr5) (.inr rfl) rfl)
  refine dk 1 [3] [.hs 194 0 [] 1 0 (r5.map str).length] ?_
  refine de 226 rfl rfl ?_
  refine cq 5 [10] [I (ar (x2.1+1))] 258 ?_
  refine cS ?_
  exact rf [3,8,9,10] [194] (ih _ _ h hr hn :)
 ·refine aq 1 ?_
  exact rf [3] [1] (hn _ (Option.some.inj h).symm :) (hk:=hK)
theorem UT (c_1:Contract)(r:(List ah))(h:tA c_1=some r):ba LR Tryz.f125 [false] 0 (Gi c_1) (GV r):=by
 show Run _ _ (Ux c_1 r) [.code Ur] _
 refine rI 25 [(0,.agg [.isl false (c_1.Parties.map str),.isl false (c_1.Clauses.map ac)])] [] 1 ?_
 unfold tA at h
 refine ck 7 [1] [] [1] [] [.hp 1 0 [] 2 0 0] [some ⟨0,2,[.agg [.isl false (c_1.Parties.map str),.isl false (c_1.Clauses.map ac)]]⟩] 33 (by kernel_rfl) ?_
 refine oq 49 (.hs 33 0 [] 1 0 0) rfl (eC rfl (na (f:=I) (xs:=[]) (z:=str ([])) (es:=[]) (ws:=[]) rfl rfl rfl (by decide) rfl (dK rfl) rfl)) ?_
 refine cq 7 [3,8] [.hs 33 0 [] 1 0 0,.isl false (c_1.Clauses.map ac)] 97 ?_
 refine oq 113 (I (len c_1.Clauses)) rfl (aZ rfl rfl rfl (bg rfl)) ?_
 refine cq 3 [10] [I (0)] 129 ?_
 obtain⟨y6,hy6,hy61,hy62⟩:=bJ h
 refine bW rfl ?_
 refine rf [3,8,9,10] [33] (Mc c_1 rfl (0,[]) _ hy6 (fun r' e st hq=>by rw[hy61 r' e] at hq;exact hq) fun u6 hu=>?_)
 replace h:=hy62 u6 hu
 refine cq 3 [23] [.hs 1 0 [] 1 0 (u6.map str).length] 18 ?_
 obtain⟨r7,hr7,h⟩:=bS h
 refine oq 34 (.hs 18 0 [] 1 0 (r7.map str).length) rfl (bT rfl rfl (ci rfl rfl rfl (tx (pC rfl (kF (path:=[]) rfl rfl aN rfl)) cz) (Xr hr7) (.inr rfl) (sP rfl rfl rfl ls dA) rfl rfl rfl)) ?_
 refine cq 2 [2] [.hs 18 0 [] 1 0 (r7.map str).length] 50 ?_
 obtain rfl:=Option.some.inj h
 exact ai rfl ⟨_,fin (vs:=[.hs 18 0 [] 1 0 (r7.map str).length]) rfl (ez (d7 rfl (cf rfl rfl)) dP) rfl (d8 eB),ey⟩
theorem xD {G:Go.Ln.Ground}:aH Tryz.prog G 125 qA:=gT 1 0 (aB Ts (aB Nd bc)) (Checked.mixed Tryz.checked) Tryz.func125 (fun a r h=>UT a r h)
def Gw:Contract→List V:=oA aG
def GB (r:Bool):V×List V:=(B r,[])
noncomputable def ET:Ent:=aO [false] Gw GB fun x=>H6 x
theorem Zr {c_1:Contract}{r}(h:H6 c_1=some r):ET.F (Gw c_1)=some (GB r):=aA (az aQ) h
noncomputable def Gl:Code:=ay Tryz.f65
noncomputable def GJ:Env:=bG Tryz.prog [(123,EA),(124,EG),(125,qA),(86,gm)]
def C2 (x:Contract)(r:Bool):St→Prop:=QF GJ Tryz.f65 [false] (Gw x) (GB r)
theorem MI (c_1:Contract):cl GJ 0 (C2 c_1) (cL (cL (cR (cL (cR (cR Gl)))))) 0 (mg c_1) (fun u=>(sT 30 [(1,.hp 1 0 [] 2 0 0)] [⟨0,2,[.agg [.isl false (c_1.Parties.map str),.isl false (c_1.Clauses.map ac)]]⟩] 2)) fun x4=>(sT 30 [(1,.hp 1 0 [] 2 0 0),(17,I (len c_1.Clauses)),(18,I x4)] [⟨0,2,[.agg [.isl false (c_1.Parties.map str),.isl false (c_1.Clauses.map ac)]]⟩] 2):=d5 (BQ c_1) fun {Q K} hK self ih x4 y h hr hn=>by
 unfold kX at h
 refine cq 5 [19] [B (decide (x4<(len c_1.Clauses)))] 18 ?_
 refine sq h (fun h=>?_) fun h=>?_
 ·refine aq 1 ?_
  refine cq 11 [21,22] [.agg [.isl false (c_1.Parties.map str),.isl false (c_1.Clauses.map ac)],I x4] 82 ?_
  obtain⟨r5,hr5,h⟩:=bS h
  refine oq 98 (B r5) rfl (cP (Y4 hr5)) ?_
  refine cq 2 [24] [B (!r5)] 114 ?_
  refine sq h (fun h=>?_) fun h=>?_
  ·refine cq 4 [2] [B false] 130 ?_
   exact ai rfl (hr _ (Option.some.inj h).symm _ (qp [B false]))
  ·refine aq 1 ?_
   refine cq 5 [18] [I (ar (x4+1))] 146 ?_
   refine cS ?_
   exact rf [1,17,18] [1] (ih _ _ h hr hn :)
 ·refine aq 1 ?_
  exact rf [1] [1] (hn _ (Option.some.inj h).symm :) (hk:=hK)
theorem VG (c_1:Contract)(r:Bool)(h:H6 c_1=some r):ba GJ Tryz.f65 [false] 0 (Gw c_1) (GB r):=by
 show Run _ _ (C2 c_1 r) [.code Gl] _
 refine rI 30 [(0,.agg [.isl false (c_1.Parties.map str),.isl false (c_1.Clauses.map ac)])] [] 1 ?_
 unfold H6 at h
 refine ck 10 [1,5] [] [1] [] [.hp 1 0 [] 2 0 0,.isl false (c_1.Parties.map str)] [some ⟨0,2,[.agg [.isl false (c_1.Parties.map str),.isl false (c_1.Clauses.map ac)]]⟩] 65 (by kernel_rfl) ?_
 obtain⟨r2,hr2,h⟩:=bS h
 refine oq 81 (B r2) rfl (cP (YE hr2)) ?_
 refine cq 2 [8] [B (!r2)] 113 ?_
 obtain⟨y3,hy3,hy31,hy32⟩:=bJ h
 have j3:∀u3,y3=.inr u3→Run GJ 0 (C2 c_1 r) (.code (cR (cL (cR Gl)))::.code (cR (cR Gl))::[]) (sT 30 [(1,.hp 1 0 [] 2 0 0),(14,B u3)] [⟨0,2,[.agg [.isl false (c_1.Parties.map str),.isl false (c_1.Clauses.map ac)]]⟩] 2):=by
  intro u3 hu
  replace h:=hy32 u3 hu
  refine sq h (fun h=>?_) fun h=>?_
  ·refine cq 4 [2] [B false] 18 ?_
   obtain rfl:=Option.some.inj h
   exact ai rfl (qp [B false])
  ·refine aq 1 ?_
   refine cq 5 [16] [.isl false (c_1.Clauses.map ac)] 34 ?_
   refine oq 50 (I (len c_1.Clauses)) rfl (aZ rfl rfl rfl (bg rfl)) ?_
   refine cq 3 [18] [I (0)] 66 ?_
   obtain⟨y6,hy6,hy61,hy62⟩:=bJ h
   refine bW rfl ?_
   refine rf [1,17,18] [1] (MI c_1 rfl 0 _ hy6 (fun r' e st hq=>by rw[hy61 r' e] at hq;exact hq) fun u6 hu=>?_)
   replace h:=hy62 u6 hu
   refine cq 3 [26] [.agg [.isl false (c_1.Parties.map str),.isl false (c_1.Clauses.map ac)]] 18 ?_
   obtain⟨r7,hr7,h⟩:=bS h
   refine oq 34 (.hs 18 0 [] 1 0 (r7.map str).length) rfl (cP (GA hr7)) ?_
   refine oq 50 (I (len r7)) rfl (aZ rfl rfl rfl (vF (f:=str) (xs:=r7) rfl rfl)) ?_
   refine cq 3 [2] [B (decide ((len r7)≤16))] 82 ?_
   obtain rfl:=Option.some.inj h
   exact ai rfl (qp [B (decide ((len r7)≤16))])
 have r3:∀r',y3=.inl r'→∀st,C2 c_1 r' st→(C2 c_1 r) st:=fun r' e st hq=>by rw[hy31 r' e] at hq;exact hq
 replace h:=hy3
 refine sp 8 h rfl (fun h=>?_) fun h=>?_
 ·refine cq 7 [14] [B true] 209 ?_
  exact rf [1,14] [1] (j3 _ (Option.some.inj h).symm :)
 ·refine cq 2 [10] [.isl false (c_1.Clauses.map ac)] 145 ?_
  refine oy 161 (I (len c_1.Clauses)) rfl (aZ rfl rfl rfl (bg rfl)) ?_
  obtain⟨r8,hr8,h⟩:=bS h
  refine oy 177 (B r8) rfl (cP (gb hr8)) ?_
  refine cq 3 [14] [B (!r8)] 209 ?_
  exact rf [1,14] [1] (j3 _ (Option.some.inj h).symm :)
theorem Ta {G:Go.Ln.Ground}:aH Tryz.prog G 65 ET:=gT 1 0 (aB TS (aB Sz (aB xD (aB gx bc)))) (Checked.mixed Tryz.checked) Tryz.func65 (fun a r h=>VG a r h)
def GS:(List ah)→List V:=oA (eu str)
def G3 (r:Bool):V×List V:=(B r,[])
noncomputable def EB:Ent:=aO [false] GS G3 fun x=>IE x
theorem YN {facts_1:List ah}{r}(h:IE facts_1=some r):EB.F (GS facts_1)=some (G3 r):=aA (az (bi bf)) h
noncomputable def Uu:Code:=ay Tryz.f127
noncomputable abbrev qE:Code:=cL (cL (cR (cL (cR Uu))))
noncomputable abbrev PZ:Code:=cR (cR (cL (cL (cR (cR qE)))))
noncomputable def Eg:Env:=bG Tryz.prog [(159,oO)]
def Gt (x:(List ah))(r:Bool):St→Prop:=QF Eg Tryz.f127 [false] (GS x) (G3 r)
theorem MM (facts_1:List ah):cl Eg 0 (Gt facts_1) qE 0 (lX facts_1) (fun u=>(sT 32 [(0,.isl false (facts_1.map str))] [] 1)) fun x2=>(sT 32 [(0,.isl false (facts_1.map str)),(5,.isl false (facts_1.map str)),(6,I (len facts_1)),(7,I x2)] [] 1):=d5 (Cq facts_1) fun {Q K} hK self ih x2 y h hr hn=>by
 unfold kQ at h
 refine cq 5 [8] [B (decide (x2<(len facts_1)))] 17 ?_
 refine sq h (fun h=>?_) fun h=>?_
 ·refine aq 1 ?_
  refine cq 5 [9] [I x2] 33 ?_
  obtain⟨e3,he3,h⟩:=bS h
  refine oq 49 (.iptr (str e3) 0) rfl (al rfl rfl rfl (aM rfl rfl rfl rfl he3)) ?_
  refine cq 7 [3,4,12] [I x2,str e3,str e3] 113 ?_
  obtain⟨r4,hr4,h⟩:=bS h
  refine oq 129 (B r4) rfl (cP (Dg hr4)) ?_
  refine cq 2 [15] [B (!r4)] 161 ?_
  obtain⟨y5,hy5,hy51,hy52⟩:=bL h
  have j5:∀u5,y5=.inr u5→Run Eg 0 Q (.code PZ::.blk 1::.code (cR (cR (cR qE)))::.lp qE::.blk 0::K) (sT 32 [(0,.isl false (facts_1.map str)),(5,.isl false (facts_1.map str)),(6,I (len facts_1)),(7,I x2),(27,B u5)] [] 1):=by
   intro u5 hu
   replace h:=hy52 u5 hu
   refine sq h (fun h=>?_) fun h=>?_
   ·refine cq 4 [2] [B false] 17 ?_
    exact ai rfl (hr _ (Option.some.inj h).symm _ (qp [B false]))
   ·refine aq 1 ?_
    refine cq 5 [7] [I (ar (x2+1))] 33 ?_
    refine cS ?_
    exact rf [0,5,6,7] [] (ih _ _ h hr hn :)
  have r5:∀r',y5=.inl r'→∀st,Gt facts_1 r' st→Q st:=fun r' e st hq=>hr r' (hy51 r' e) st hq
  replace h:=hy5
  refine sp 15 h rfl (fun h=>?_) fun h=>?_
  ·refine cq 13 [27] [B true] 353 ?_
   exact rf [0,5,6,7,27] [] (j5 _ (Option.some.inj h).symm :)
  ·refine cq 3 [18] [B (decide (x2>0))] 209 ?_
   obtain⟨y6,hy6,hy61,hy62⟩:=bL h
   have j6:∀u6,y6=.inr u6→Run Eg 0 Q (.code PZ::.blk 1::.code (cR (cR (cR qE)))::.lp qE::.blk 0::K) (sT 32 [(0,.isl false (facts_1.map str)),(5,.isl false (facts_1.map str)),(6,I (len facts_1)),(7,I x2),(27,B u6)] [] 1):=by
    intro u6 hu
    replace h:=hy62 u6 hu
    exact rf [0,5,6,7,27] [] (j5 _ (Option.some.inj h).symm :)
   have r6:∀r',y6=.inl r'→∀st,Gt facts_1 r' st→Q st:=fun r' e st hq=>r5 r' (hy61 r' e) st hq
   replace h:=hy6
   refine sp 18 h rfl (fun h=>?_) fun h=>?_
   ·refine cq 4 [19,20,22] [str e3,.isl false (facts_1.map str),I (ar (x2 - 1))] 273 ?_
    obtain⟨e7,he7,h⟩:=bS h
    refine oy 289 (.iptr (str e7) 0) rfl (al rfl rfl rfl (aM rfl rfl rfl rfl he7)) ?_
    refine cq 5 [27] [B (Op.bytesLess e3 e7||e3==e7)] 353 ?_
    exact rf [0,5,6,7,27] [] (j6 _ (Option.some.inj h).symm :)
   ·refine cq 10 [27] [B false] 353 ?_
    exact rf [0,5,6,7,27] [] (j6 _ (Option.some.inj h).symm :)
 ·refine aq 1 ?_
  exact rf [0] [] (hn _ (Option.some.inj h).symm :) (hk:=hK)
theorem V2 (facts_1:List ah)(r:Bool)(h:IE facts_1=some r):ba Eg Tryz.f127 [false] 0 (GS facts_1) (G3 r):=by
 show Run _ _ (Gt facts_1 r) [.code Uu] _
 refine rI 32 [(0,.isl false (facts_1.map str))] [] 1 ?_
 unfold IE at h
 refine cq 8 [5] [.isl false (facts_1.map str)] 33 ?_
 refine oq 49 (I (len facts_1)) rfl (aZ rfl rfl rfl (bg rfl)) ?_
 refine cq 3 [7] [I (0)] 65 ?_
 obtain⟨y8,hy8,hy81,hy82⟩:=bJ h
 refine bW rfl ?_
 refine rf [0,5,6,7] [] (MM facts_1 rfl 0 _ hy8 (fun r' e st hq=>by rw[hy81 r' e] at hq;exact hq) fun u8 hu=>?_)
 replace h:=hy82 u8 hu
 refine cq 3 [29] [.isl false (facts_1.map str)] 17 ?_
 refine oq 33 (I (len facts_1)) rfl (aZ rfl rfl rfl (bg rfl)) ?_
 refine cq 3 [2] [B (decide ((len facts_1)≤16))] 65 ?_
 obtain rfl:=Option.some.inj h
 exact ai rfl (qp [B (decide ((len facts_1)≤16))])
theorem Sx {G:Go.Ln.Ground}:aH Tryz.prog G 127 EB:=gT 1 0 (aB rV bc) (Checked.mixed Tryz.checked) Tryz.func127 (fun a r h=>V2 a r h)
def GT:(ah×(List ah))→List V:=cA str (oA (fun x:List ah=>.iptr ((eu str) x) 0))
def Ha (r:Bool):V×List V:=(B r,[])
noncomputable def Ff:Ent:=aO [false,false] GT Ha fun x=>IK x.1 x.2
theorem YB {f_1:ah}{a_2:List ah}{r}(h:IK f_1 a_2=some r):Ff.F (GT (f_1,a_2))=some (Ha r):=aA (aU bf (az (mO (bi bf)))) h
noncomputable def Zk:Code:=ay Tryz.f129
noncomputable def Uq:Env:=bG Tryz.prog [(130,mH)]
def Ze (x:ah×(List ah))(r:Bool):St→Prop:=QF Uq Tryz.f129 [false,false] (GT x) (Ha r)
theorem VJ (f_1:ah)(a_2:List ah)(r:Bool)(h:IK f_1 a_2=some r):ba Uq Tryz.f129 [false,false] 0 (GT (f_1,a_2)) (Ha r):=by
 show Run _ _ (Ze (f_1,a_2) r) [.code Zk] _
 refine rI 8 [(0,str f_1),(1,.iptr (.isl false (a_2.map str)) 0)] [] 1 ?_
 unfold IK at h
 refine cq 8 [4,5] [.isl false (a_2.map str),str f_1] 49 ?_
 obtain⟨r3,hr3,h⟩:=bS h
 refine oq 65 (B r3) rfl (cP (BU hr3)) ?_
 refine cq 3 [3] [B (!r3)] 97 ?_
 obtain rfl:=Option.some.inj h
 exact ai rfl (qp [B (!r3)])
theorem T9 {G:Go.Ln.Ground}:aH Tryz.prog G 129 Ff:=gT 2 0 (aB pE bc) (Checked.mixed Tryz.checked) Tryz.func129 (fun a r h=>VJ a.1 a.2 r h)
def Ay:((List ah)×(List ah))→List V:=cA (eu str) (oA (fun x:(List ah)=>(.fn 129 [.iptr ((eu str) x) 0]:V)))
def CN (r:Int):V×List V:=(I r,[])
noncomputable def zN:Ent:=aO [false,false] Ay CN fun x=>Fe x.1 x.2
theorem Wy {s_1:List ah}{f_2:(List ah)}{r}(h:Fe s_1 f_2=some r):zN.F (Ay (s_1,f_2))=some (CN r):=aA (aU (bi bf) (az (rG (bi bf)))) h
noncomputable def O4:Code:=ay Tryz.f188
noncomputable def Jp:Env:=bG Tryz.prog [(129,Ff)]
def PD (x:(List ah)×(List ah))(r:Int):St→Prop:=QF Jp Tryz.f188 [false,false] (Ay x) (CN r)
theorem Kd (s_1:List ah)(f_2:(List ah)):cl Jp 0 (PD (s_1,f_2)) (cL (cL (cR (cL (cR O4))))) 0 (rd s_1 f_2) (fun u=>(sT 19 [] [] 1)) fun x3=>(sT 19 [(0,.isl false (s_1.map str)),(1,.fn 129 [.iptr (.isl false (f_2.map str)) 0]),(7,I (len s_1)),(8,I x3)] [] 1):=d5 (wN s_1 f_2) fun {Q K} hK self ih x3 y h hr hn=>by
 unfold lj at h
 refine cq 5 [9] [B (decide (x3<(len s_1)))] 17 ?_
 refine sq h (fun h=>?_) fun h=>?_
 ·refine aq 1 ?_
  refine cq 12 [5,11,12,13] [I x3,.fn 129 [.iptr (.isl false (f_2.map str)) 0],.isl false (s_1.map str),I x3] 97 ?_
  obtain⟨e4,he4,h⟩:=bS h
  refine oq 113 (.iptr (str e4) 0) rfl (al rfl rfl rfl (aM rfl rfl rfl rfl he4)) ?_
  refine cq 1 [15] [str e4] 129 ?_
  obtain⟨r5,hr5,h⟩:=bS h
  refine oq 145 (B r5) rfl (cP (YB hr5)) ?_
  refine aq 1 ?_
  refine sq h (fun h=>?_) fun h=>?_
  ·refine cq 5 [4] [I x3] 177 ?_
   exact ai rfl (hr _ (Option.some.inj h).symm _ (qp [I x3]))
  ·refine aq 1 ?_
   refine cq 5 [8] [I (ar (x3+1))] 177 ?_
   refine cS ?_
   exact rf [0,1,7,8] [] (ih _ _ h hr hn :)
 ·refine aq 1 ?_
  exact rf [] [] (hn _ (Option.some.inj h).symm :) (hk:=hK)
theorem SI (s_1:List ah)(f_2:(List ah))(r:Int)(h:Fe s_1 f_2=some r):ba Jp Tryz.f188 [false,false] 0 (Ay (s_1,f_2)) (CN r):=by
 show Run _ _ (PD (s_1,f_2) r) [.code O4] _
 refine rI 19 [(0,.isl false (s_1.map str)),(1,.fn 129 [.iptr (.isl false (f_2.map str)) 0])] [] 1 ?_
 unfold Fe at h
 refine cq 8 [6] [.isl false (s_1.map str)] 33 ?_
 refine oq 49 (I (len s_1)) rfl (aZ rfl rfl rfl (bg rfl)) ?_
 refine cq 3 [8] [I (0)] 65 ?_
 obtain⟨y6,hy6,hy61,hy62⟩:=bJ h
 refine bW rfl ?_
 refine rf [0,1,7,8] [] (Kd s_1 f_2 rfl 0 _ hy6 (fun r' e st hq=>by rw[hy61 r' e] at hq;exact hq) fun u6 hu=>?_)
 replace h:=hy62 u6 hu
 refine cq 4 [4] [I (-1)] 17 ?_
 obtain rfl:=Option.some.inj h
 exact ai rfl (qp [I (-1)])
theorem OX {G:Go.Ln.Ground}:aH Tryz.prog G 188 zN:=gT 2 0 (aB T9 bc) (Checked.mixed Tryz.checked) Tryz.func188 (fun a r h=>SI a.1 a.2 r h)
def DE:((List ah)×(List ah))→List V:=cA (eu str) (oA (fun x:(List ah)=>(.fn 129 [.iptr ((eu str) x) 0]:V)))
def CU (r:Bool):V×List V:=(B r,[])
noncomputable def ze:Ent:=aO [false,false] DE CU fun x=>EU x.1 x.2
theorem Xc {s_1:List ah}{f_2:(List ah)}{r}(h:EU s_1 f_2=some r):ze.F (DE (s_1,f_2))=some (CU r):=aA (aU (bi bf) (az (rG (bi bf)))) h
noncomputable def Yo:Code:=ay Tryz.f128
noncomputable def OG:Env:=bG Tryz.prog [(188,zN)]
def W8 (x:(List ah)×(List ah))(r:Bool):St→Prop:=QF OG Tryz.f128 [false,false] (DE x) (CU r)
theorem ST (s_1:List ah)(f_2:(List ah))(r:Bool)(h:EU s_1 f_2=some r):ba OG Tryz.f128 [false,false] 0 (DE (s_1,f_2)) (CU r):=by
 show Run _ _ (W8 (s_1,f_2) r) [.code Yo] _
 refine rI 9 [(0,.isl false (s_1.map str)),(1,.fn 129 [.iptr (.isl false (f_2.map str)) 0])] [] 1 ?_
 unfold EU at h
 refine cq 8 [5,6] [.isl false (s_1.map str),.fn 129 [.iptr (.isl false (f_2.map str)) 0]] 49 ?_
 obtain⟨r3,hr3,h⟩:=bS h
 refine oq 65 (I r3) rfl (bT rfl rfl (ci rfl rfl rfl (bh (bE rfl) (bh (H1 (dx (hJ rfl) kC)) cz)) (Wy hr3) (.inr rfl) dA rfl rfl rfl)) ?_
 refine cq 3 [4] [B (decide (r3≥0))] 97 ?_
 obtain rfl:=Option.some.inj h
 exact ai rfl (qp [B (decide (r3≥0))])
theorem ND {G:Go.Ln.Ground}:aH Tryz.prog G 128 ze:=gT 2 0 (aB OX bc) (Checked.mixed Tryz.checked) Tryz.func128 (fun a r h=>ST a.1 a.2 r h)
def Br:(List Int)→List V:=oA (eu I)
def AG (r:Int):V×List V:=(I r,[])
noncomputable def xG:Ent:=aO [false] Br AG fun x=>tZ x
theorem W9 {list_1:List Int}{r}(h:tZ list_1=some r):xG.F (Br list_1)=some (AG r):=aA (az (bi bA)) h
noncomputable def Qo:Code:=ay Tryz.f131
noncomputable def Jh:Env:=bG Tryz.prog []
def P6 (x:(List Int))(r:Int):St→Prop:=QF Jh Tryz.f131 [false] (Br x) (AG r)
theorem Kx (list_1:List Int):cl Jh 0 (P6 list_1) (cL (cL (cR (cL (cR (cR Qo)))))) 0 (Fd list_1) (fun u=>(sT 17 [(3,I u)] [] 1)) fun x2=>(sT 17 [(3,I x2.1),(6,.isl false (list_1.map I)),(7,I (len list_1)),(8,I x2.2)] [] 1):=d5 (J9 list_1) fun {Q K} hK self ih x2 y h hr hn=>by
 unfold pK at h
 refine cq 5 [9] [B (decide (x2.2<(len list_1)))] 17 ?_
 refine sq h (fun h=>?_) fun h=>?_
 ·refine aq 1 ?_
  refine aq 4 ?_
  obtain⟨e3,he3,h⟩:=bS h
  refine oq 33 (.iptr (I e3) 0) rfl (al rfl rfl rfl (aM rfl rfl rfl rfl he3)) ?_
  refine cq 14 [3,8] [I (ar (x2.1+e3)),I (ar (x2.2+1))] 161 ?_
  refine cS ?_
  exact rf [3,6,7,8] [] (ih _ _ h hr hn :)
 ·refine aq 1 ?_
  exact rf [3] [] (hn _ (Option.some.inj h).symm :) (hk:=hK)
theorem Rq (list_1:List Int)(r:Int)(h:tZ list_1=some r):ba Jh Tryz.f131 [false] 0 (Br list_1) (AG r):=by
 show Run _ _ (P6 list_1 r) [.code Qo] _
 refine rI 17 [(0,.isl false (list_1.map I))] [] 1 ?_
 unfold tZ at h
 refine cq 12 [3,6] [I (0),.isl false (list_1.map I)] 49 ?_
 refine oq 65 (I (len list_1)) rfl (aZ rfl rfl rfl (bg rfl)) ?_
 refine cq 3 [8] [I (0)] 81 ?_
 obtain⟨y4,hy4,hy41,hy42⟩:=bJ h
 refine bW rfl ?_
 refine rf [3,6,7,8] [] (Kx list_1 rfl (0,0) _ hy4 (fun r' e st hq=>by rw[hy41 r' e] at hq;exact hq) fun u4 hu=>?_)
 replace h:=hy42 u4 hu
 refine cq 5 [2] [I u4] 33 ?_
 obtain rfl:=Option.some.inj h
 exact ai rfl (qp [I u4])
theorem NW {G:Go.Ln.Ground}:aH Tryz.prog G 131 xG:=gT 1 0 bc (Checked.mixed Tryz.checked) Tryz.func131 (fun a r h=>Rq a r h)
def GW:(Clause×Contract×Int)→List V:=cA ac (cA (fun x:Contract=>.iptr (aG x) 0) (oA (fun x:Int=>.iptr (I x) 0)))
def G7 (r:Bool):V×List V:=(B r,[])
noncomputable def EM:Ent:=aO [false,false,false] GW G7 fun x=>HH x.1 x.2.1 x.2.2
theorem Zc {x_1:Clause}{a_2:Contract}{a_3:Int}{r}(h:HH x_1 a_2 a_3=some r):EM.F (GW (x_1,a_2,a_3))=some (G7 r):=aA (aU cm (aU (mO aQ) (az (mO bA)))) h
noncomputable def YU:Code:=ay Tryz.f222
noncomputable def Uf:Env:=bG Tryz.prog []
def YZ (x:Clause×Contract×Int)(r:Bool):St→Prop:=QF Uf Tryz.f222 [false,false,false] (GW x) (G7 r)
theorem Vr (x_1:Clause)(a_2:Contract)(a_3:Int)(r:Bool)(h:HH x_1 a_2 a_3=some r):ba Uf Tryz.f222 [false,false,false] 0 (GW (x_1,a_2,a_3)) (G7 r):=by
 show Run _ _ (YZ (x_1,a_2,a_3) r) [.code YU] _
 refine rI 14 [(0,.agg [str x_1.Id,I x_1.Kind,I x_1.Party,str x_1.Action,I x_1.Other,I x_1.Amount,I x_1.When.Op,str x_1.When.Name,I x_1.When.Day,.isl false (x_1.When.Parts.map aa),I x_1.Within,str x_1.Repair]),(1,.iptr (.agg [.isl false (a_2.Parties.map str),.isl false (a_2.Clauses.map ac)]) 0),(2,.iptr (I a_3) 0)] [] 1 ?_
 unfold HH at h
 refine ck 6 [3] [] [1] [] [.hp 1 0 [] 12 0 0] [some ⟨0,12,[.agg [str x_1.Id,I x_1.Kind,I x_1.Party,str x_1.Action,I x_1.Other,I x_1.Amount,I x_1.When.Op,str x_1.When.Name,I x_1.When.Day,.isl false (x_1.When.Parts.map aa),I x_1.Within,str x_1.Repair]]⟩] 33 (by kernel_rfl) ?_
 refine dN [0,1,0,4,0,28,60,124,255,511] rfl (by decide +kernel) ?_
 refine dq [1] [] (.hp 1 0 [] 12 0 11) rfl (ak rfl rfl rfl) ?_
 refine dq [1] [] (str x_1.Repair) rfl (aL rfl rfl) ?_
 refine dq [] [] (.iptr (.agg [.isl false (a_2.Parties.map str),.isl false (a_2.Clauses.map ac)]) 1) rfl (ak rfl rfl rfl) ?_
 refine dq [] [] (.isl false (a_2.Clauses.map ac)) rfl (aL rfl rfl) ?_
 refine dq [] [] (I a_3) rfl (aL rfl rfl) ?_
 obtain⟨e4,he4,h⟩:=bS h
 refine dq [] [] (.iptr (.agg [str e4.Id,I e4.Kind,I e4.Party,str e4.Action,I e4.Other,I e4.Amount,I e4.When.Op,str e4.When.Name,I e4.When.Day,.isl false (e4.When.Parts.map aa),I e4.Within,str e4.Repair]) 0) rfl (al rfl rfl rfl (aM rfl rfl rfl rfl he4)) ?_
 refine dq [] [] (.iptr (.agg [str e4.Id,I e4.Kind,I e4.Party,str e4.Action,I e4.Other,I e4.Amount,I e4.When.Op,str e4.When.Name,I e4.When.Day,.isl false (e4.When.Parts.map aa),I e4.Within,str e4.Repair]) 0) rfl (ak rfl rfl rfl) ?_
 refine dq [] [] (str e4.Id) rfl (aL rfl rfl) ?_
 refine dk 2 [4,13] [B (x_1.Repair==e4.Id),B (x_1.Repair==e4.Id)] ?_
 refine de 193 rfl rfl ?_
 obtain rfl:=Option.some.inj h
 exact ai rfl (qp [B (x_1.Repair==e4.Id)])
theorem S6 {G:Go.Ln.Ground}:aH Tryz.prog G 222 EM:=gT 3 0 bc (Checked.mixed Tryz.checked) Tryz.func222 (fun a r h=>Vr a.1 a.2.1 a.2.2 r h)
def Aw:((List Clause)×(Contract×Int))→List V:=cA (eu ac) (oA (fun x:Contract×Int=>(.fn 222 [.iptr (aG x.1) 0,.iptr (I x.2) 0]:V)))
def BO (r:Int):V×List V:=(I r,[])
noncomputable def zt:Ent:=aO [false,false] Aw BO fun x=>EW x.1 x.2
theorem Wh {s_1:List Clause}{f_2:Contract×Int}{r}(h:EW s_1 f_2=some r):zt.F (Aw (s_1,f_2))=some (BO r):=aA (aU (bi cm) (az (Ll aQ bA))) h
noncomputable def QU:Code:=ay Tryz.f160
noncomputable def Jw:Env:=bG Tryz.prog [(222,EM)]
def Q5 (x:(List Clause)×(Contract×Int))(r:Int):St→Prop:=QF Jw Tryz.f160 [false,false] (Aw x) (BO r)
theorem JO (s_1:List Clause)(f_2:Contract×Int):cl Jw 0 (Q5 (s_1,f_2)) (cL (cL (cR (cL (cR QU))))) 0 (qH s_1 f_2) (fun u=>(sT 19 [] [] 1)) fun x3=>(sT 19 [(0,.isl false (s_1.map ac)),(1,.fn 222 [.iptr (.agg [.isl false (f_2.1.Parties.map str),.isl false (f_2.1.Clauses.map ac)]) 0,.iptr (I f_2.2) 0]),(7,I (len s_1)),(8,I x3)] [] 1):=d5 (wD s_1 f_2) fun {Q K} hK self ih x3 y h hr hn=>by
 unfold kZ at h
 refine cq 5 [9] [B (decide (x3<(len s_1)))] 17 ?_
 refine sq h (fun h=>?_) fun h=>?_
 ·refine aq 1 ?_
  refine cq 12 [5,11,12,13] [I x3,.fn 222 [.iptr (.agg [.isl false (f_2.1.Parties.map str),.isl false (f_2.1.Clauses.map ac)]) 0,.iptr (I f_2.2) 0],.isl false (s_1.map ac),I x3] 97 ?_
  obtain⟨e4,he4,h⟩:=bS h
  refine oq 113 (.iptr (.agg [str e4.Id,I e4.Kind,I e4.Party,str e4.Action,I e4.Other,I e4.Amount,I e4.When.Op,str e4.When.Name,I e4.When.Day,.isl false (e4.When.Parts.map aa),I e4.Within,str e4.Repair]) 0) rfl (al rfl rfl rfl (aM rfl rfl rfl rfl he4)) ?_
  refine cq 1 [15] [.agg [str e4.Id,I e4.Kind,I e4.Party,str e4.Action,I e4.Other,I e4.Amount,I e4.When.Op,str e4.When.Name,I e4.When.Day,.isl false (e4.When.Parts.map aa),I e4.Within,str e4.Repair]] 129 ?_
  obtain⟨r5,hr5,h⟩:=bS h
  refine oq 145 (B r5) rfl (cP (Zc hr5)) ?_
  refine aq 1 ?_
  refine sq h (fun h=>?_) fun h=>?_
  ·refine cq 5 [4] [I x3] 177 ?_
   exact ai rfl (hr _ (Option.some.inj h).symm _ (qp [I x3]))
  ·refine aq 1 ?_
   refine cq 5 [8] [I (ar (x3+1))] 177 ?_
   refine cS ?_
   exact rf [0,1,7,8] [] (ih _ _ h hr hn :)
 ·refine aq 1 ?_
  exact rf [] [] (hn _ (Option.some.inj h).symm :) (hk:=hK)
theorem Rl (s_1:List Clause)(f_2:Contract×Int)(r:Int)(h:EW s_1 f_2=some r):ba Jw Tryz.f160 [false,false] 0 (Aw (s_1,f_2)) (BO r):=by
 show Run _ _ (Q5 (s_1,f_2) r) [.code QU] _
 refine rI 19 [(0,.isl false (s_1.map ac)),(1,.fn 222 [.iptr (.agg [.isl false (f_2.1.Parties.map str),.isl false (f_2.1.Clauses.map ac)]) 0,.iptr (I f_2.2) 0])] [] 1 ?_
 unfold EW at h
 refine cq 8 [6] [.isl false (s_1.map ac)] 33 ?_
 refine oq 49 (I (len s_1)) rfl (aZ rfl rfl rfl (bg rfl)) ?_
 refine cq 3 [8] [I (0)] 65 ?_
 obtain⟨y6,hy6,hy61,hy62⟩:=bJ h
 refine bW rfl ?_
 refine rf [0,1,7,8] [] (JO s_1 f_2 rfl 0 _ hy6 (fun r' e st hq=>by rw[hy61 r' e] at hq;exact hq) fun u6 hu=>?_)
 replace h:=hy62 u6 hu
 refine cq 4 [4] [I (-1)] 17 ?_
 obtain rfl:=Option.some.inj h
 exact ai rfl (qp [I (-1)])
theorem NN {G:Go.Ln.Ground}:aH Tryz.prog G 160 zt:=gT 2 0 (aB S6 bc) (Checked.mixed Tryz.checked) Tryz.func160 (fun a r h=>Rl a.1 a.2 r h)
def Bk:((List Clause)×(Contract×Int))→List V:=cA (eu ac) (oA (fun x:Contract×Int=>(.fn 222 [.iptr (aG x.1) 0,.iptr (I x.2) 0]:V)))
def AP (r:Bool):V×List V:=(B r,[])
noncomputable def xo:Ent:=aO [false,false] Bk AP fun x=>E6 x.1 x.2
theorem XR {s_1:List Clause}{f_2:Contract×Int}{r}(h:E6 s_1 f_2=some r):xo.F (Bk (s_1,f_2))=some (AP r):=aA (aU (bi cm) (az (Ll aQ bA))) h
noncomputable def XF:Code:=ay Tryz.f221
noncomputable def PH:Env:=bG Tryz.prog [(160,zt)]
def Ye (x:(List Clause)×(Contract×Int))(r:Bool):St→Prop:=QF PH Tryz.f221 [false,false] (Bk x) (AP r)
theorem S1 (s_1:List Clause)(f_2:Contract×Int)(r:Bool)(h:E6 s_1 f_2=some r):ba PH Tryz.f221 [false,false] 0 (Bk (s_1,f_2)) (AP r):=by
 show Run _ _ (Ye (s_1,f_2) r) [.code XF] _
 refine rI 9 [(0,.isl false (s_1.map ac)),(1,.fn 222 [.iptr (.agg [.isl false (f_2.1.Parties.map str),.isl false (f_2.1.Clauses.map ac)]) 0,.iptr (I f_2.2) 0])] [] 1 ?_
 unfold E6 at h
 refine cq 8 [5,6] [.isl false (s_1.map ac),.fn 222 [.iptr (.agg [.isl false (f_2.1.Parties.map str),.isl false (f_2.1.Clauses.map ac)]) 0,.iptr (I f_2.2) 0]] 49 ?_
 obtain⟨r3,hr3,h⟩:=bS h
 refine oq 65 (I r3) rfl (bT rfl rfl (ci rfl rfl rfl (bh (bE rfl) (bh (H1 (dx (hJ rfl) (dx (hJ rfl) kC))) cz)) (Wh hr3) (.inr rfl) dA rfl rfl rfl)) ?_
 refine cq 3 [4] [B (decide (r3≥0))] 97 ?_
 obtain rfl:=Option.some.inj h
 exact ai rfl (qp [B (decide (r3≥0))])
theorem P7 {G:Go.Ln.Ground}:aH Tryz.prog G 221 xo:=gT 2 0 (aB NN bc) (Checked.mixed Tryz.checked) Tryz.func221 (fun a r h=>S1 a.1 a.2 r h)
def G8:(Contract×Int)→List V:=cA aG (oA I)
def GK (r:Bool):V×List V:=(B r,[])
noncomputable def Fk:Ent:=aO [false,false] G8 GK fun x=>Hq x.1 x.2
theorem Zq {c_1:Contract}{i_2:Int}{r}(h:Hq c_1 i_2=some r):Fk.F (G8 (c_1,i_2))=some (GK r):=aA (aU aQ (az bA)) h
noncomputable def YP:Code:=ay Tryz.f190
noncomputable def UF:Env:=bG Tryz.prog [(221,xo)]
def YX (x:Contract×Int)(r:Bool):St→Prop:=QF UF Tryz.f190 [false,false] (G8 x) (GK r)
theorem UM (c_1:Contract)(i_2:Int)(r:Bool)(h:Hq c_1 i_2=some r):ba UF Tryz.f190 [false,false] 0 (G8 (c_1,i_2)) (GK r):=by
 show Run _ _ (YX (c_1,i_2) r) [.code YP] _
 refine rI 9 [(0,.agg [.isl false (c_1.Parties.map str),.isl false (c_1.Clauses.map ac)]),(1,I i_2)] [] 1 ?_
 unfold Hq at h
 refine ck 11 [6,7] [] [1,17] [] [.isl false (c_1.Clauses.map ac),.fn 222 [.hp 1 0 [] 2 0 0,.hp 17 0 [] 1 0 0]] [some ⟨0,2,[.agg [.isl false (c_1.Parties.map str),.isl false (c_1.Clauses.map ac)]]⟩,some ⟨0,1,[I i_2]⟩] 97 (by kernel_rfl) ?_
 obtain⟨r3,hr3,h⟩:=bS h
 refine oq 113 (B r3) rfl (bT rfl rfl (ci rfl rfl rfl (bh (bE rfl) (bh (H1 (dx (pj (path:=[]) rfl rfl aN rfl rfl) (dx (pj (path:=[]) rfl rfl aN rfl rfl) kC))) cz)) (XR hr3) (.inl rfl) dA rfl rfl rfl)) ?_
 refine cq 2 [4] [B r3] 129 ?_
 obtain rfl:=Option.some.inj h
 exact ai rfl (qp [B r3])
theorem TN {G:Go.Ln.Ground}:aH Tryz.prog G 190 Fk:=gT 2 0 (aB P7 bc) (Checked.mixed Tryz.checked) Tryz.func190 (fun a r h=>UM a.1 a.2 r h)
def GI:(Duty×Duty)→List V:=cA ae (oA (fun x:Duty=>.iptr (ae x) 0))
def Ge (r:Bool):V×List V:=(B r,[])
noncomputable def ED:Ent:=aO [false,false] GI Ge fun x=>KI x.1 x.2
theorem YO {other_1:Duty}{a_2:Duty}{r}(h:KI other_1 a_2=some r):ED.F (GI (other_1,a_2))=some (Ge r):=aA (aU cO (az (mO cO))) h
noncomputable def YD:Code:=ay Tryz.f191
noncomputable def UA:Env:=bG Tryz.prog []
def Zf (x:Duty×Duty)(r:Bool):St→Prop:=QF UA Tryz.f191 [false,false] (GI x) (Ge r)
theorem V1 (other_1:Duty)(a_2:Duty)(r:Bool)(h:KI other_1 a_2=some r):ba UA Tryz.f191 [false,false] 0 (GI (other_1,a_2)) (Ge r):=by
 show Run _ _ (Zf (other_1,a_2) r) [.code YD] _
 refine rI 9 [(0,ae other_1),(1,.iptr (ae a_2) 0)] [] 1 ?_
 unfold KI at h
 refine cq 14 [3] [B (other_1.Clause==a_2.Clause)] 129 ?_
 obtain rfl:=Option.some.inj h
 exact ai rfl (qp [B (other_1.Clause==a_2.Clause)])
theorem Tw {G:Go.Ln.Ground}:aH Tryz.prog G 191 ED:=gT 2 0 bc (Checked.mixed Tryz.checked) Tryz.func191 (fun a r h=>V1 a.1 a.2 r h)
def CL:((List Duty)×Duty)→List V:=cA (eu ae) (oA (fun x:Duty=>(.fn 191 [.iptr (ae x) 0]:V)))
def Eb (r:Int):V×List V:=(I r,[])
noncomputable def yq:Ent:=aO [false,false] CL Eb fun x=>E0 x.1 x.2
theorem Wv {s_1:List Duty}{f_2:Duty}{r}(h:E0 s_1 f_2=some r):yq.F (CL (s_1,f_2))=some (Eb r):=aA (aU (bi cO) (az (rG cO))) h
noncomputable def NH:Code:=ay Tryz.f138
noncomputable def Ih:Env:=bG Tryz.prog [(191,ED)]
def Po (x:(List Duty)×Duty)(r:Int):St→Prop:=QF Ih Tryz.f138 [false,false] (CL x) (Eb r)
theorem JW (s_1:List Duty)(f_2:Duty):cl Ih 0 (Po (s_1,f_2)) (cL (cL (cR (cL (cR NH))))) 0 (qC s_1 f_2) (fun u=>(sT 19 [] [] 1)) fun x3=>(sT 19 [(0,.isl false (s_1.map ae)),(1,.fn 191 [.iptr (ae f_2) 0]),(7,I (len s_1)),(8,I x3)] [] 1):=d5 (wo s_1 f_2) fun {Q K} hK self ih x3 y h hr hn=>by
 unfold lF at h
 refine cq 5 [9] [B (decide (x3<(len s_1)))] 17 ?_
 refine sq h (fun h=>?_) fun h=>?_
 ·refine aq 1 ?_
  refine cq 12 [5,11,12,13] [I x3,.fn 191 [.iptr (ae f_2) 0],.isl false (s_1.map ae),I x3] 97 ?_
  obtain⟨e4,he4,h⟩:=bS h
  refine oq 113 (.iptr (ae e4) 0) rfl (al rfl rfl rfl (aM rfl rfl rfl rfl he4)) ?_
  refine cq 1 [15] [ae e4] 129 ?_
  obtain⟨r5,hr5,h⟩:=bS h
  refine oq 145 (B r5) rfl (cP (YO hr5)) ?_
  refine aq 1 ?_
  refine sq h (fun h=>?_) fun h=>?_
  ·refine cq 5 [4] [I x3] 177 ?_
   exact ai rfl (hr _ (Option.some.inj h).symm _ (qp [I x3]))
  ·refine aq 1 ?_
   refine cq 5 [8] [I (ar (x3+1))] 177 ?_
   refine cS ?_
   exact rf [0,1,7,8] [] (ih _ _ h hr hn :)
 ·refine aq 1 ?_
  exact rf [] [] (hn _ (Option.some.inj h).symm :) (hk:=hK)
theorem SB (s_1:List Duty)(f_2:Duty)(r:Int)(h:E0 s_1 f_2=some r):ba Ih Tryz.f138 [false,false] 0 (CL (s_1,f_2)) (Eb r):=by
 show Run _ _ (Po (s_1,f_2) r) [.code NH] _
 refine rI 19 [(0,.isl false (s_1.map ae)),(1,.fn 191 [.iptr (ae f_2) 0])] [] 1 ?_
 unfold E0 at h
 refine cq 8 [6] [.isl false (s_1.map ae)] 33 ?_
 refine oq 49 (I (len s_1)) rfl (aZ rfl rfl rfl (bg rfl)) ?_
 refine cq 3 [8] [I (0)] 65 ?_
 obtain⟨y6,hy6,hy61,hy62⟩:=bJ h
 refine bW rfl ?_
 refine rf [0,1,7,8] [] (JW s_1 f_2 rfl 0 _ hy6 (fun r' e st hq=>by rw[hy61 r' e] at hq;exact hq) fun u6 hu=>?_)
 replace h:=hy62 u6 hu
 refine cq 4 [4] [I (-1)] 17 ?_
 obtain rfl:=Option.some.inj h
 exact ai rfl (qp [I (-1)])
theorem Ns {G:Go.Ln.Ground}:aH Tryz.prog G 138 yq:=gT 2 0 (aB Tw bc) (Checked.mixed Tryz.checked) Tryz.func138 (fun a r h=>SB a.1 a.2 r h)
def Ci:((List Duty)×Duty)→List V:=cA (eu ae) (oA (fun x:Duty=>(.fn 191 [.iptr (ae x) 0]:V)))
def D1 (r:Bool):V×List V:=(B r,[])
noncomputable def zO:Ent:=aO [false,false] Ci D1 fun x=>EN x.1 x.2
theorem XG {s_1:List Duty}{f_2:Duty}{r}(h:EN s_1 f_2=some r):zO.F (Ci (s_1,f_2))=some (D1 r):=aA (aU (bi cO) (az (rG cO))) h
noncomputable def Ym:Code:=ay Tryz.f70
noncomputable def QI:Env:=bG Tryz.prog [(138,yq)]
def WI (x:(List Duty)×Duty)(r:Bool):St→Prop:=QF QI Tryz.f70 [false,false] (Ci x) (D1 r)
theorem Rr (s_1:List Duty)(f_2:Duty)(r:Bool)(h:EN s_1 f_2=some r):ba QI Tryz.f70 [false,false] 0 (Ci (s_1,f_2)) (D1 r):=by
 show Run _ _ (WI (s_1,f_2) r) [.code Ym] _
 refine rI 9 [(0,.isl false (s_1.map ae)),(1,.fn 191 [.iptr (ae f_2) 0])] [] 1 ?_
 unfold EN at h
 refine cq 8 [5,6] [.isl false (s_1.map ae),.fn 191 [.iptr (ae f_2) 0]] 49 ?_
 obtain⟨r3,hr3,h⟩:=bS h
 refine oq 65 (I r3) rfl (bT rfl rfl (ci rfl rfl rfl (bh (bE rfl) (bh (H1 (dx (hJ rfl) kC)) cz)) (Wv hr3) (.inr rfl) dA rfl rfl rfl)) ?_
 refine cq 3 [4] [B (decide (r3≥0))] 97 ?_
 obtain rfl:=Option.some.inj h
 exact ai rfl (qp [B (decide (r3≥0))])
theorem Nu {G:Go.Ln.Ground}:aH Tryz.prog G 70 zO:=gT 2 0 (aB Ns bc) (Checked.mixed Tryz.checked) Tryz.func70 (fun a r h=>Rr a.1 a.2 r h)
def Gq:(Contract×State×Int)→List V:=cA aG (cA bI (oA I))
def G5 (r:Bool):V×List V:=(B r,[])
noncomputable def Es:Ent:=aO [false,false,false] Gq G5 fun x=>Jc x.1 x.2.1 x.2.2
theorem Y0 {c_1:Contract}{s_2:State}{i_3:Int}{r}(h:Jc c_1 s_2 i_3=some r):Es.F (Gq (c_1,s_2,i_3))=some (G5 r):=aA (aU aQ (aU cD (az bA))) h
noncomputable def iH:Code:=ay Tryz.f132
noncomputable def nV:Env:=bG Tryz.prog [(86,gm),(190,Fk),(70,zO),(126,qV)]
def fO (x:Contract×State×Int)(r:Bool):St→Prop:=QF nV Tryz.f132 [false,false,false] (Gq x) (G5 r)
theorem VH (c_1:Contract)(s_2:State)(i_3:Int)(r:Bool)(h:Jc c_1 s_2 i_3=some r):ba nV Tryz.f132 [false,false,false] 0 (Gq (c_1,s_2,i_3)) (G5 r):=by
 show Run _ _ (fO (c_1,s_2,i_3) r) [.code iH] _
 refine rI 114 [(0,.agg [.isl false (c_1.Parties.map str),.isl false (c_1.Clauses.map ac)]),(1,.agg [I s_2.Day,.isl false (s_2.Facts.map str),.isl false (s_2.Duties.map ae),.isl false (s_2.Balances.map I),B s_2.Over]),(2,I i_3)] [] 1 ?_
 unfold Jc at h
 refine ck 11 [3,4,9,10] [] [1,17] [] [.hp 1 0 [] 2 0 0,.hp 17 0 [] 5 0 0,.isl false (s_2.Duties.map ae),I i_3] [some ⟨0,2,[.agg [.isl false (c_1.Parties.map str),.isl false (c_1.Clauses.map ac)]]⟩,some ⟨0,5,[.agg [I s_2.Day,.isl false (s_2.Facts.map str),.isl false (s_2.Duties.map ae),.isl false (s_2.Balances.map I),B s_2.Over]]⟩] 97 (by kernel_rfl) ?_
 obtain⟨e4,he4,h⟩:=bS h
 refine oq 113 (.iptr (ae e4) 0) rfl (al rfl rfl rfl (aM rfl rfl rfl rfl he4)) ?_
 refine ck 11 [7,14,16] [] [129] [] [.hp 129 0 [] 4 0 0,I e4.Clause,.isl false (c_1.Clauses.map ac)] [some ⟨0,4,[ae e4]⟩] 225 (by kernel_rfl) ?_
 refine oq 241 (I (len c_1.Clauses)) rfl (aZ rfl rfl rfl (bg rfl)) ?_
 refine cq 1 [18] [I (ar ((len c_1.Clauses) - 1))] 257 ?_
 obtain⟨r5,hr5,h⟩:=bS h
 refine oq 273 (B r5) rfl (cP (gb hr5)) ?_
 refine cq 2 [21] [B (!r5)] 305 ?_
 obtain⟨y6,hy6,hy61,hy62⟩:=bJ h
 have j6:∀u6,y6=.inr u6→Run nV 0 (fO (c_1,s_2,i_3) r) (.code (cR (cL (cR (cR iH))))::.code (cR (cR (cR iH)))::[]) (sT 114 [(2,I i_3),(3,.hp 1 0 [] 2 0 0),(4,.hp 2 0 [] 5 0 0),(7,.hp 3 0 [] 4 0 0),(38,B u6)] [⟨0,2,[.agg [.isl false (c_1.Parties.map str),.isl false (c_1.Clauses.map ac)]]⟩,⟨0,5,[.agg [I s_2.Day,.isl false (s_2.Facts.map str),.isl false (s_2.Duties.map ae),.isl false (s_2.Balances.map I),B s_2.Over]]⟩,⟨0,4,[ae e4]⟩] 4):=by
  intro u6 hu
  replace h:=hy62 u6 hu
  refine sq h (fun h=>?_) fun h=>?_
  ·refine cq 4 [6] [B false] 20 ?_
   obtain rfl:=Option.some.inj h
   exact ai rfl (qp [B false])
  ·refine aq 1 ?_
   refine aq 2 ?_
   refine dN [0,1,0,4,0,16,0,64,240,496,1008,2044,4095,8191,16383,32767,65535,131071,262143,524287,1048575,2097151,4194303,8388607,16777215,8388607,41943039,8388607,142606335,511705087,1048575999,2122317823,4294967295,8589934591,17179869183] rfl (by decide +kernel) ?_
   refine dq [3] [] (.hp 3 0 [] 4 0 2) rfl (ak rfl rfl rfl) ?_
   refine dq [3] [] (I e4.Due) rfl (aL rfl rfl) ?_
   refine dq [3] [] (.hp 3 0 [] 4 0 1) rfl (ak rfl rfl rfl) ?_
   refine dq [3] [] (I e4.Since) rfl (aL rfl rfl) ?_
   refine dq [1] [] (.hp 1 0 [] 2 0 1) rfl (ak rfl rfl rfl) ?_
   refine dq [1] [] (.isl false (c_1.Clauses.map ac)) rfl (aL rfl rfl) ?_
   refine dq [3] [] (.hp 3 0 [] 4 0 0) rfl (ak rfl rfl rfl) ?_
   refine dq [3] [] (I e4.Clause) rfl (aL rfl rfl) ?_
   obtain⟨e7,he7,h⟩:=bS h
   refine dq [] [] (.iptr (.agg [str e7.Id,I e7.Kind,I e7.Party,str e7.Action,I e7.Other,I e7.Amount,I e7.When.Op,str e7.When.Name,I e7.When.Day,.isl false (e7.When.Parts.map aa),I e7.Within,str e7.Repair]) 0) rfl (al rfl rfl rfl (aM rfl rfl rfl rfl he7)) ?_
   refine dq [] [] (.iptr (.agg [str e7.Id,I e7.Kind,I e7.Party,str e7.Action,I e7.Other,I e7.Amount,I e7.When.Op,str e7.When.Name,I e7.When.Day,.isl false (e7.When.Parts.map aa),I e7.Within,str e7.Repair]) 10) rfl (ak rfl rfl rfl) ?_
   refine dq [] [] (I e7.Within) rfl (aL rfl rfl) ?_
   refine dk 3 [52,51,50] [B (e4.Due != (ar (e4.Since+e7.Within))),B (e4.Due != (ar (e4.Since+e7.Within))),I (ar (e4.Since+e7.Within))] ?_
   obtain⟨y8,hy8,hy81,hy82⟩:=bJ h
   have j8:∀u8,y8=.inr u8→Run nV 0 (fO (c_1,s_2,i_3) r) (.code (cR (cL (cR (cR (cR iH)))))::.code (cR (cR (cR (cR iH))))::[]) (sT 114 [(2,I i_3),(3,.hp 1 0 [] 2 0 0),(4,.hp 2 0 [] 5 0 0),(7,.hp 3 0 [] 4 0 0),(73,B u8)] [⟨0,2,[.agg [.isl false (c_1.Parties.map str),.isl false (c_1.Clauses.map ac)]]⟩,⟨0,5,[.agg [I s_2.Day,.isl false (s_2.Facts.map str),.isl false (s_2.Duties.map ae),.isl false (s_2.Balances.map I),B s_2.Over]]⟩,⟨0,4,[ae e4]⟩] 4):=by
    intro u8 hu
    replace h:=hy82 u8 hu
    refine sq h (fun h=>?_) fun h=>?_
    ·refine cq 4 [6] [B false] 20 ?_
     obtain rfl:=Option.some.inj h
     exact ai rfl (qp [B false])
    ·refine aq 1 ?_
     refine cq 6 [74,76] [.agg [.isl false (c_1.Parties.map str),.isl false (c_1.Clauses.map ac)],I e4.Clause] 52 ?_
     obtain⟨r9,hr9,h⟩:=bS h
     refine oq 68 (B r9) rfl (cP (Zq hr9)) ?_
     refine cq 2 [79] [B (!r9)] 100 ?_
     obtain⟨y10,hy10,hy101,hy102⟩:=bJ h
     have j10:∀u10,y10=.inr u10→Run nV 0 (fO (c_1,s_2,i_3) r) (.code (cR (cL (cR (cR (cR (cR iH))))))::.code (cR (cR (cR (cR (cR iH)))))::[]) (sT 114 [(4,.hp 1 0 [] 5 0 0),(7,.hp 2 0 [] 4 0 0),(86,B u10)] [⟨0,5,[.agg [I s_2.Day,.isl false (s_2.Facts.map str),.isl false (s_2.Duties.map ae),.isl false (s_2.Balances.map I),B s_2.Over]]⟩,⟨0,4,[ae e4]⟩] 3):=by
      intro u10 hu
      replace h:=hy102 u10 hu
      refine sq h (fun h=>?_) fun h=>?_
      ·refine cq 4 [6] [B false] 19 ?_
       obtain rfl:=Option.some.inj h
       exact ai rfl (qp [B false])
      ·refine aq 1 ?_
       refine cq 12 [88,89] [I e4.Status,B (e4.Status==1)] 67 ?_
       refine sq h (fun h=>?_) fun h=>?_
       ·refine cq 8 [96] [B (decide (e4.Due≥s_2.Day))] 163 ?_
        obtain⟨u11,hu11,h⟩:=lJ h
        have j11:Run nV 0 (fO (c_1,s_2,i_3) r) (.code (cR (cL (cR (cL (cR (cL (cR (cR (cR (cR (cR iH)))))))))))::.blk 0::.code (cR (cR (cR (cR (cR (cR iH))))))::[]) (sT 114 [(6,B u11)] [] 1):=by
         obtain rfl:=Option.some.inj h
         exact ai rfl (qp [B u11])
        replace h:=hu11
        clear hu11
        refine sp 96 h rfl (fun h=>?_) fun h=>?_
        ·refine cq 6 [6] [B (!s_2.Over)] 243 ?_
         subst h
         exact rf [6] [] (j11 :)
        ·refine cq 6 [6] [B false] 243 ?_
         subst h
         exact rf [6] [] (j11 :)
       ·refine cq 5 [101] [B (e4.Status==2)] 99 ?_
        refine sq h (fun h=>?_) fun h=>?_
        ·refine cq 4 [6] [B true] 115 ?_
         obtain rfl:=Option.some.inj h
         exact ai rfl (qp [B true])
        ·refine cq 5 [103] [B (e4.Status==3)] 131 ?_
         refine sq h (fun h=>?_) fun h=>?_
         ·refine cq 9 [6] [B (decide (e4.Due<s_2.Day))] 227 ?_
          obtain rfl:=Option.some.inj h
          exact ai rfl (qp [B (decide (e4.Due<s_2.Day))])
         ·refine cq 5 [110] [B (e4.Status==4)] 163 ?_
          refine sq h (fun h=>?_) fun h=>?_
          ·refine cq 6 [6] [B s_2.Over] 211 ?_
           obtain rfl:=Option.some.inj h
           exact ai rfl (qp [B s_2.Over])
          ·refine aq 1 ?_
           refine cq 5 [6] [B false] 179 ?_
           obtain rfl:=Option.some.inj h
           exact ai rfl (qp [B false])
     have r10:∀r',y10=.inl r'→∀st,fO (c_1,s_2,i_3) r' st→(fO (c_1,s_2,i_3) r) st:=fun r' e st hq=>by rw[hy101 r' e] at hq;exact hq
     replace h:=hy10
     refine sp 79 h rfl (fun h=>?_) fun h=>?_
     ·refine cq 3 [81,82] [.isl false (s_2.Duties.map ae),I i_3] 148 ?_
      obtain⟨s12,hs12,h⟩:=bS h
      refine oy 164 (.isl false (s12.map ae)) rfl (gt rfl rfl rfl rfl (Jo rfl rfl (fun y=>(rL y).1) rfl rfl hs12)) ?_
      refine cq 1 [84] [.fn 191 [.hp 3 0 [] 4 0 0]] 180 ?_
      obtain⟨r13,hr13,h⟩:=bS h
      refine oy 196 (B r13) rfl (bT rfl rfl (ci rfl rfl rfl (bh (bE rfl) (bh (H1 (dx (pj (path:=[]) rfl rfl aN rfl rfl) kC)) cz)) (XG hr13) (.inl rfl) dA rfl rfl rfl)) ?_
      refine cq 2 [86] [B r13] 212 ?_
      exact rf [4,7,86] [2,3] (j10 _ (Option.some.inj h).symm :)
     ·refine cq 8 [86] [B false] 212 ?_
      exact rf [4,7,86] [2,3] (j10 _ (Option.some.inj h).symm :)
   have r8:∀r',y8=.inl r'→∀st,fO (c_1,s_2,i_3) r' st→(fO (c_1,s_2,i_3) r) st:=fun r' e st hq=>by rw[hy81 r' e] at hq;exact hq
   replace h:=hy8
   refine sp 52 h rfl (fun h=>?_) fun h=>?_
   ·refine dk 21 [73,72,71,70,69,68,67,66,65,64,63,62,61,60,59,58,57,56,55,54,53] [B true,.und,.und,.und,.und,.und,.und,.und,.und,.und,.und,.und,.und,.und,.und,B true,B true,.und,.und,.und,.und] ?_
    refine de 564 rfl rfl ?_
    exact rf [2,3,4,7,73] [1,2,3] (j8 _ (Option.some.inj h).symm :)
   ·refine dy [3] [] (.hp 3 0 [] 4 0 2) rfl (ak rfl rfl rfl) ?_
    refine dy [3] [] (I e4.Due) rfl (aL rfl rfl) ?_
    obtain⟨r14,hr14,h⟩:=bS h
    refine dy [] [] (B r14) rfl (cP (sY hr14)) ?_ (ct rfl rfl rfl rfl (bh (bE rfl) cz) (sY hr14) (.inr rfl) rfl)
    refine dk 3 [58,57,56] [B (!r14),B (!r14),B (!r14)] ?_
    obtain⟨y15,hy15,hy151,hy152⟩:=bL h
    have j15:∀u15,y15=.inr u15→Run nV 0 (fO (c_1,s_2,i_3) r) (.code (cR (cL (cR (cR (cR iH)))))::.code (cR (cR (cR (cR iH))))::[]) (sT 114 [(2,I i_3),(3,.hp 1 0 [] 2 0 0),(4,.hp 2 0 [] 5 0 0),(7,.hp 3 0 [] 4 0 0),(73,B u15)] [⟨0,2,[.agg [.isl false (c_1.Parties.map str),.isl false (c_1.Clauses.map ac)]]⟩,⟨0,5,[.agg [I s_2.Day,.isl false (s_2.Facts.map str),.isl false (s_2.Duties.map ae),.isl false (s_2.Balances.map I),B s_2.Over]]⟩,⟨0,4,[ae e4]⟩] 4):=by
     intro u15 hu
     replace h:=hy152 u15 hu
     exact rf [2,3,4,7,73] [1,2,3] (j8 _ (Option.some.inj h).symm :)
    have r15:∀r',y15=.inl r'→∀st,fO (c_1,s_2,i_3) r' st→(fO (c_1,s_2,i_3) r) st:=fun r' e st hq=>r8 r' (hy151 r' e) st hq
    replace h:=hy15
    refine sp 58 h rfl (fun h=>?_) fun h=>?_
    ·refine dk 15 [73,72,71,70,69,68,67,66,65,64,63,62,61,60,59] [B true,.und,.und,.und,.und,.und,.und,.und,.und,.und,.und,.und,.und,.und,.und] ?_
     refine de 564 rfl rfl ?_
     exact rf [2,3,4,7,73] [1,2,3] (j15 _ (Option.some.inj h).symm :)
    ·refine dk 3 [61,60,59] [B (decide (i_3>0)),B (decide (i_3>0)),I i_3] ?_
     obtain⟨y16,hy16,hy161,hy162⟩:=bL h
     have j16:∀u16,y16=.inr u16→Run nV 0 (fO (c_1,s_2,i_3) r) (.code (cR (cL (cR (cR (cR iH)))))::.code (cR (cR (cR (cR iH))))::[]) (sT 114 [(2,I i_3),(3,.hp 1 0 [] 2 0 0),(4,.hp 2 0 [] 5 0 0),(7,.hp 3 0 [] 4 0 0),(73,B u16)] [⟨0,2,[.agg [.isl false (c_1.Parties.map str),.isl false (c_1.Clauses.map ac)]]⟩,⟨0,5,[.agg [I s_2.Day,.isl false (s_2.Facts.map str),.isl false (s_2.Duties.map ae),.isl false (s_2.Balances.map I),B s_2.Over]]⟩,⟨0,4,[ae e4]⟩] 4):=by
      intro u16 hu
      replace h:=hy162 u16 hu
      exact rf [2,3,4,7,73] [1,2,3] (j15 _ (Option.some.inj h).symm :)
     have r16:∀r',y16=.inl r'→∀st,fO (c_1,s_2,i_3) r' st→(fO (c_1,s_2,i_3) r) st:=fun r' e st hq=>r15 r' (hy161 r' e) st hq
     replace h:=hy16
     refine sp 61 h rfl (fun h=>?_) fun h=>?_
     ·refine dy [3] [] (.hp 3 0 [] 4 0 1) rfl (ak rfl rfl rfl) ?_
      refine dy [3] [] (I e4.Since) rfl (aL rfl rfl) ?_
      refine dy [2] [] (.hp 2 0 [] 5 0 2) rfl (ak rfl rfl rfl) ?_
      refine dy [2] [] (.isl false (s_2.Duties.map ae)) rfl (aL rfl rfl) ?_
      refine dk 2 [67,66] [I (ar (i_3 - 1)),I i_3] ?_
      obtain⟨e17,he17,h⟩:=bS h
      refine dy [] [] (.iptr (ae e17) 0) rfl (al rfl rfl rfl (aM rfl rfl rfl rfl he17)) ?_
      refine dy [] [] (.iptr (ae e17) 1) rfl (ak rfl rfl rfl) ?_
      refine dy [] [] (I e17.Since) rfl (aL rfl rfl) ?_
      refine dk 3 [73,72,71] [B (decide (e4.Since<e17.Since)),B (decide (e4.Since<e17.Since)),B (decide (e4.Since<e17.Since))] ?_
      refine de 564 rfl rfl ?_
      exact rf [2,3,4,7,73] [1,2,3] (j16 _ (Option.some.inj h).symm :)
     ·refine dk 12 [73,72,71,70,69,68,67,66,65,64,63,62] [B false,B false,.und,.und,.und,.und,.und,.und,.und,.und,.und,.und] ?_
      refine de 564 rfl rfl ?_
      exact rf [2,3,4,7,73] [1,2,3] (j16 _ (Option.some.inj h).symm :)
 have r6:∀r',y6=.inl r'→∀st,fO (c_1,s_2,i_3) r' st→(fO (c_1,s_2,i_3) r) st:=fun r' e st hq=>by rw[hy61 r' e] at hq;exact hq
 replace h:=hy6
 refine sp 21 h rfl (fun h=>?_) fun h=>?_
 ·refine cq 18 [38] [B true] 577 ?_
  exact rf [2,3,4,7,38] [1,17,129] (j6 _ (Option.some.inj h).symm :)
 ·refine cq 4 [23,25] [.isl false (c_1.Clauses.map ac),I e4.Clause] 369 ?_
  obtain⟨e18,he18,h⟩:=bS h
  refine oy 385 (.iptr (.agg [str e18.Id,I e18.Kind,I e18.Party,str e18.Action,I e18.Other,I e18.Amount,I e18.When.Op,str e18.When.Name,I e18.When.Day,.isl false (e18.When.Parts.map aa),I e18.Within,str e18.Repair]) 0) rfl (al rfl rfl rfl (aM rfl rfl rfl rfl he18)) ?_
  refine cq 5 [31] [B (e18.Kind != 1)] 465 ?_
  obtain⟨y19,hy19,hy191,hy192⟩:=bL h
  have j19:∀u19,y19=.inr u19→Run nV 0 (fO (c_1,s_2,i_3) r) (.code (cR (cL (cR (cR iH))))::.code (cR (cR (cR iH)))::[]) (sT 114 [(2,I i_3),(3,.hp 1 0 [] 2 0 0),(4,.hp 2 0 [] 5 0 0),(7,.hp 3 0 [] 4 0 0),(38,B u19)] [⟨0,2,[.agg [.isl false (c_1.Parties.map str),.isl false (c_1.Clauses.map ac)]]⟩,⟨0,5,[.agg [I s_2.Day,.isl false (s_2.Facts.map str),.isl false (s_2.Duties.map ae),.isl false (s_2.Balances.map I),B s_2.Over]]⟩,⟨0,4,[ae e4]⟩] 4):=by
   intro u19 hu
   replace h:=hy192 u19 hu
   exact rf [2,3,4,7,38] [1,2,3] (j6 _ (Option.some.inj h).symm :)
  have r19:∀r',y19=.inl r'→∀st,fO (c_1,s_2,i_3) r' st→(fO (c_1,s_2,i_3) r) st:=fun r' e st hq=>r6 r' (hy191 r' e) st hq
  replace h:=hy19
  refine sp 31 h rfl (fun h=>?_) fun h=>?_
  ·refine cq 8 [38] [B true] 577 ?_
   exact rf [2,3,4,7,38] [1,17,129] (j19 _ (Option.some.inj h).symm :)
  ·refine cq 4 [33,35] [I e4.Since,I s_2.Day] 529 ?_
   obtain⟨r20,hr20,h⟩:=bS h
   refine oy 545 (B r20) rfl (cP (gb hr20)) ?_
   refine cq 3 [38] [B (!r20)] 577 ?_
   exact rf [2,3,4,7,38] [1,17,129] (j19 _ (Option.some.inj h).symm :)
theorem SF {G:Go.Ln.Ground}:aH Tryz.prog G 132 Es:=gT 3 0 (aB gx (aB TN (aB Nu (aB zc bc)))) (Checked.mixed Tryz.checked) Tryz.func132 (fun a r h=>VH a.1 a.2.1 a.2.2 r h)
def Gh:Int→List V:=oA I
def GQ (r:Bool):V×List V:=(B r,[])
noncomputable def EL:Ent:=aO [false] Gh GQ fun x=>KE x
theorem YK {x_1:Int}{r}(h:KE x_1=some r):EL.F (Gh x_1)=some (GQ r):=aA (az bA) h
noncomputable def Zu:Code:=ay Tryz.f135
noncomputable def Uh:Env:=bG Tryz.prog [(86,gm)]
def Y2 (x:Int)(r:Bool):St→Prop:=QF Uh Tryz.f135 [false] (Gh x) (GQ r)
theorem Vi (x_1:Int)(r:Bool)(h:KE x_1=some r):ba Uh Tryz.f135 [false] 0 (Gh x_1) (GQ r):=by
 show Run _ _ (Y2 x_1 r) [.code Zu] _
 refine rI 5 [(0,I x_1)] [] 1 ?_
 unfold KE at h
 refine cq 7 [3] [I x_1] 33 ?_
 obtain⟨r2,hr2,h⟩:=bS h
 refine oq 49 (B r2) rfl (cP (gb hr2)) ?_
 refine cq 2 [2] [B r2] 65 ?_
 obtain rfl:=Option.some.inj h
 exact ai rfl (qp [B r2])
theorem SN {G:Go.Ln.Ground}:aH Tryz.prog G 135 EL:=gT 1 0 (aB gx bc) (Checked.mixed Tryz.checked) Tryz.func135 (fun a r h=>Vi a r h)
def GC:Int→List V:=oA I
def Gp (r:Bool):V×List V:=(B r,[])
noncomputable def En:Ent:=aO [false] GC Gp fun x=>Hj x
theorem Zh {b_1:Int}{r}(h:Hj b_1=some r):En.F (GC b_1)=some (Gp r):=aA (az bA) h
noncomputable def YF:Code:=ay Tryz.f134
noncomputable def Ud:Env:=bG Tryz.prog [(135,EL)]
def Zl (x:Int)(r:Bool):St→Prop:=QF Ud Tryz.f134 [false] (GC x) (Gp r)
theorem Ve (b_1:Int)(r:Bool)(h:Hj b_1=some r):ba Ud Tryz.f134 [false] 0 (GC b_1) (Gp r):=by
 show Run _ _ (Zl b_1 r) [.code YF] _
 refine rI 6 [(0,I b_1)] [] 1 ?_
 unfold Hj at h
 refine cq 7 [3] [I b_1] 33 ?_
 obtain⟨r2,hr2,h⟩:=bS h
 refine oq 49 (B r2) rfl (cP (YK hr2)) ?_
 refine cq 3 [2] [B (!r2)] 81 ?_
 obtain rfl:=Option.some.inj h
 exact ai rfl (qp [B (!r2)])
theorem SR {G:Go.Ln.Ground}:aH Tryz.prog G 134 En:=gT 1 0 (aB SN bc) (Checked.mixed Tryz.checked) Tryz.func134 (fun a r h=>Ve a r h)
def Cz:((List Int)×Unit)→List V:=cA (eu I) (oA (fun x:Unit=>(.fn 134 []:V)))
def Ai (r:Int):V×List V:=(I r,[])
noncomputable def zu:Ent:=aO [false,false] Cz Ai fun x=>Em x.1 x.2
theorem Yd {s_1:List Int}{f_2:Unit}{r}(h:Em s_1 f_2=some r):zu.F (Cz (s_1,f_2))=some (Ai r):=aA (aU (bi bA) (az (Lm ))) h
noncomputable def O1:Code:=ay Tryz.f192
noncomputable def H9:Env:=bG Tryz.prog [(134,En)]
def Oq (x:(List Int)×Unit)(r:Int):St→Prop:=QF H9 Tryz.f192 [false,false] (Cz x) (Ai r)
theorem JL (s_1:List Int)(f_2:Unit):cl H9 0 (Oq (s_1,f_2)) (cL (cL (cR (cL (cR O1))))) 0 (qR s_1 f_2) (fun u=>(sT 19 [] [] 1)) fun x3=>(sT 19 [(0,.isl false (s_1.map I)),(1,.fn 134 []),(7,I (len s_1)),(8,I x3)] [] 1):=d5 (wn s_1 f_2) fun {Q K} hK self ih x3 y h hr hn=>by
 unfold lr at h
 refine cq 5 [9] [B (decide (x3<(len s_1)))] 17 ?_
 refine sq h (fun h=>?_) fun h=>?_
 ·refine aq 1 ?_
  refine cq 12 [5,11,12,13] [I x3,.fn 134 [],.isl false (s_1.map I),I x3] 97 ?_
  obtain⟨e4,he4,h⟩:=bS h
  refine oq 113 (.iptr (I e4) 0) rfl (al rfl rfl rfl (aM rfl rfl rfl rfl he4)) ?_
  refine cq 1 [15] [I e4] 129 ?_
  obtain⟨r5,hr5,h⟩:=bS h
  refine oq 145 (B r5) rfl (cP (Zh hr5)) ?_
  refine aq 1 ?_
  refine sq h (fun h=>?_) fun h=>?_
  ·refine cq 5 [4] [I x3] 177 ?_
   exact ai rfl (hr _ (Option.some.inj h).symm _ (qp [I x3]))
  ·refine aq 1 ?_
   refine cq 5 [8] [I (ar (x3+1))] 177 ?_
   refine cS ?_
   exact rf [0,1,7,8] [] (ih _ _ h hr hn :)
 ·refine aq 1 ?_
  exact rf [] [] (hn _ (Option.some.inj h).symm :) (hk:=hK)
theorem RP (s_1:List Int)(f_2:Unit)(r:Int)(h:Em s_1 f_2=some r):ba H9 Tryz.f192 [false,false] 0 (Cz (s_1,f_2)) (Ai r):=by
 show Run _ _ (Oq (s_1,f_2) r) [.code O1] _
 refine rI 19 [(0,.isl false (s_1.map I)),(1,.fn 134 [])] [] 1 ?_
 unfold Em at h
 refine cq 8 [6] [.isl false (s_1.map I)] 33 ?_
 refine oq 49 (I (len s_1)) rfl (aZ rfl rfl rfl (bg rfl)) ?_
 refine cq 3 [8] [I (0)] 65 ?_
 obtain⟨y6,hy6,hy61,hy62⟩:=bJ h
 refine bW rfl ?_
 refine rf [0,1,7,8] [] (JL s_1 f_2 rfl 0 _ hy6 (fun r' e st hq=>by rw[hy61 r' e] at hq;exact hq) fun u6 hu=>?_)
 replace h:=hy62 u6 hu
 refine cq 4 [4] [I (-1)] 17 ?_
 obtain rfl:=Option.some.inj h
 exact ai rfl (qp [I (-1)])
theorem N4 {G:Go.Ln.Ground}:aH Tryz.prog G 192 zu:=gT 2 0 (aB SR bc) (Checked.mixed Tryz.checked) Tryz.func192 (fun a r h=>RP a.1 a.2 r h)
def Bw:((List Int)×Unit)→List V:=cA (eu I) (oA (fun x:Unit=>(.fn 134 []:V)))
def CP (r:Bool):V×List V:=(B r,[])
noncomputable def zD:Ent:=aO [false,false] Bw CP fun x=>Ew x.1 x.2
theorem Xv {s_1:List Int}{f_2:Unit}{r}(h:Ew s_1 f_2=some r):zD.F (Bw (s_1,f_2))=some (CP r):=aA (aU (bi bA) (az (Lm ))) h
noncomputable def Yl:Code:=ay Tryz.f133
noncomputable def Nv:Env:=bG Tryz.prog [(192,zu)]
def Xk (x:(List Int)×Unit)(r:Bool):St→Prop:=QF Nv Tryz.f133 [false,false] (Bw x) (CP r)
theorem RJ (s_1:List Int)(f_2:Unit)(r:Bool)(h:Ew s_1 f_2=some r):ba Nv Tryz.f133 [false,false] 0 (Bw (s_1,f_2)) (CP r):=by
 show Run _ _ (Xk (s_1,f_2) r) [.code Yl] _
 refine rI 9 [(0,.isl false (s_1.map I)),(1,.fn 134 [])] [] 1 ?_
 unfold Ew at h
 refine cq 8 [5,6] [.isl false (s_1.map I),.fn 134 []] 49 ?_
 obtain⟨r3,hr3,h⟩:=bS h
 refine oq 65 (I r3) rfl (cP (Yd hr3)) ?_
 refine cq 3 [4] [B (decide (r3≥0))] 97 ?_
 obtain rfl:=Option.some.inj h
 exact ai rfl (qp [B (decide (r3≥0))])
theorem N9 {G:Go.Ln.Ground}:aH Tryz.prog G 133 zD:=gT 2 0 (aB N4 bc) (Checked.mixed Tryz.checked) Tryz.func133 (fun a r h=>RJ a.1 a.2 r h)
def GY:(Contract×State)→List V:=cA aG (oA bI)
def G6 (r:Bool):V×List V:=(B r,[])
noncomputable def EE:Ent:=aO [false,false] GY G6 fun x=>IW x.1 x.2
theorem Zo {c_1:Contract}{s_2:State}{r}(h:IW c_1 s_2=some r):EE.F (GY (c_1,s_2))=some (G6 r):=aA (aU aQ (az cD)) h
noncomputable def mS:Code:=ay Tryz.f66
noncomputable def sK:Env:=bG Tryz.prog [(125,qA),(126,qV),(132,Es),(133,zD),(131,xG),(127,EB),(128,ze)]
def jl (x:Contract×State)(r:Bool):St→Prop:=QF sK Tryz.f66 [false,false] (GY x) (G6 r)
theorem MU (c_1:Contract)(s_2:State):cl sK 0 (jl (c_1,s_2)) (cL (cL (cR (cL (cR (cR (cR (cR mS)))))))) 0 (nB c_1 s_2) (fun u=>(sT 60 [(3,.hp 1 0 [] 5 0 0)] [⟨0,5,[.agg [I s_2.Day,.isl false (s_2.Facts.map str),.isl false (s_2.Duties.map ae),.isl false (s_2.Balances.map I),B s_2.Over]]⟩] 2)) fun x7=>(sT 60 [(2,.hp 1 0 [] 2 0 0),(3,.hp 2 0 [] 5 0 0),(46,I (len s_2.Duties)),(47,I x7)] [⟨0,2,[.agg [.isl false (c_1.Parties.map str),.isl false (c_1.Clauses.map ac)]]⟩,⟨0,5,[.agg [I s_2.Day,.isl false (s_2.Facts.map str),.isl false (s_2.Duties.map ae),.isl false (s_2.Balances.map I),B s_2.Over]]⟩] 3):=d5 (Dx c_1 s_2) fun {Q K} hK self ih x7 y h hr hn=>by
 unfold kU at h
 refine cq 5 [48] [B (decide (x7<(len s_2.Duties)))] 19 ?_
 refine sq h (fun h=>?_) fun h=>?_
 ·refine aq 1 ?_
  refine cq 12 [50,51,52] [.agg [.isl false (c_1.Parties.map str),.isl false (c_1.Clauses.map ac)],.agg [I s_2.Day,.isl false (s_2.Facts.map str),.isl false (s_2.Duties.map ae),.isl false (s_2.Balances.map I),B s_2.Over],I x7] 99 ?_
  obtain⟨r8,hr8,h⟩:=bS h
  refine oq 115 (B r8) rfl (cP (Y0 hr8)) ?_
  refine cq 2 [54] [B (!r8)] 131 ?_
  refine sq h (fun h=>?_) fun h=>?_
  ·refine cq 4 [4] [B false] 147 ?_
   exact ai rfl (hr _ (Option.some.inj h).symm _ (qp [B false]))
  ·refine aq 1 ?_
   refine cq 5 [47] [I (ar (x7+1))] 163 ?_
   refine cS ?_
   exact rf [2,3,46,47] [1,2] (ih _ _ h hr hn :)
 ·refine aq 1 ?_
  exact rf [3] [2] (hn _ (Option.some.inj h).symm :) (hk:=hK)
theorem Vf (c_1:Contract)(s_2:State)(r:Bool)(h:IW c_1 s_2=some r):ba sK Tryz.f66 [false,false] 0 (GY (c_1,s_2)) (G6 r):=by
 show Run _ _ (jl (c_1,s_2) r) [.code mS] _
 refine rI 60 [(0,.agg [.isl false (c_1.Parties.map str),.isl false (c_1.Clauses.map ac)]),(1,.agg [I s_2.Day,.isl false (s_2.Facts.map str),.isl false (s_2.Duties.map ae),.isl false (s_2.Balances.map I),B s_2.Over])] [] 1 ?_
 unfold IW at h
 refine ck 9 [2,3,7] [] [1,17] [] [.hp 1 0 [] 2 0 0,.hp 17 0 [] 5 0 0,.agg [.isl false (c_1.Parties.map str),.isl false (c_1.Clauses.map ac)]] [some ⟨0,2,[.agg [.isl false (c_1.Parties.map str),.isl false (c_1.Clauses.map ac)]]⟩,some ⟨0,5,[.agg [I s_2.Day,.isl false (s_2.Facts.map str),.isl false (s_2.Duties.map ae),.isl false (s_2.Balances.map I),B s_2.Over]]⟩] 65 (by kernel_rfl) ?_
 obtain⟨r3,hr3,h⟩:=bS h
 refine oq 81 (.hs 65 0 [] 1 0 (r3.map str).length) rfl (cP (GA hr3)) ?_
 refine ck 1 [5] [] [81] [] [.hp 81 0 [] 1 0 0] [some ⟨0,1,[.isl true []]⟩] 97 (by kernel_rfl) ?_
 refine eb 81 [.usl 1 (([]).map str)] rfl rfl (au (.nil _) dm) ?_
 refine o0 113 rfl rfl (fD rfl rfl (eA (path:=[]) (pl:=false) (e':=.usl 1 (r3.map str)) (es2':=[.usl 1 (r3.map str)]) rfl (d7 rfl (cf rfl rfl)) rfl rfl rfl aN rfl rfl rfl rfl rfl du 2 rfl)) ?_
 refine cq 6 [10] [I s_2.Day] 145 ?_
 obtain⟨r4,hr4,h⟩:=bS h
 refine oq 161 (B r4) rfl (cP (sY hr4)) ?_
 refine cq 2 [13] [B (!r4)] 193 ?_
 obtain⟨y5,hy5,hy51,hy52⟩:=bJ h
 have j5:∀u5,y5=.inr u5→Run sK 0 (jl (c_1,s_2) r) (.code (cR (cL (cR (cR mS))))::.code (cR (cR (cR mS)))::[]) (sT 60 [(2,.hp 1 0 [] 2 0 0),(3,.hp 2 0 [] 5 0 0),(24,B u5)] [⟨0,2,[.agg [.isl false (c_1.Parties.map str),.isl false (c_1.Clauses.map ac)]]⟩,⟨0,5,[.agg [I s_2.Day,.isl false (s_2.Facts.map str),.isl false (s_2.Duties.map ae),.isl false (s_2.Balances.map I),B s_2.Over]]⟩] 3):=by
  intro u5 hu
  replace h:=hy52 u5 hu
  refine sq h (fun h=>?_) fun h=>?_
  ·refine cq 4 [4] [B false] 19 ?_
   obtain rfl:=Option.some.inj h
   exact ai rfl (qp [B false])
  ·refine aq 1 ?_
   refine cq 5 [26] [.isl false (s_2.Duties.map ae)] 35 ?_
   refine oq 51 (I (len s_2.Duties)) rfl (aZ rfl rfl rfl (bg rfl)) ?_
   refine cq 2 [29] [B (decide ((len s_2.Duties)>24))] 83 ?_
   obtain⟨y6,hy6,hy61,hy62⟩:=bJ h
   have j6:∀u6,y6=.inr u6→Run sK 0 (jl (c_1,s_2) r) (.code (cR (cL (cR (cR (cR mS)))))::.code (cR (cR (cR (cR mS))))::[]) (sT 60 [(2,.hp 1 0 [] 2 0 0),(3,.hp 2 0 [] 5 0 0),(43,B u6)] [⟨0,2,[.agg [.isl false (c_1.Parties.map str),.isl false (c_1.Clauses.map ac)]]⟩,⟨0,5,[.agg [I s_2.Day,.isl false (s_2.Facts.map str),.isl false (s_2.Duties.map ae),.isl false (s_2.Balances.map I),B s_2.Over]]⟩] 3):=by
    intro u6 hu
    replace h:=hy62 u6 hu
    refine sq h (fun h=>?_) fun h=>?_
    ·refine cq 4 [4] [B false] 19 ?_
     obtain rfl:=Option.some.inj h
     exact ai rfl (qp [B false])
    ·refine aq 1 ?_
     refine cq 5 [45] [.isl false (s_2.Duties.map ae)] 35 ?_
     refine oq 51 (I (len s_2.Duties)) rfl (aZ rfl rfl rfl (bg rfl)) ?_
     refine cq 3 [47] [I (0)] 67 ?_
     obtain⟨y9,hy9,hy91,hy92⟩:=bJ h
     refine bW rfl ?_
     refine rf [2,3,46,47] [1,2] (MU c_1 s_2 rfl 0 _ hy9 (fun r' e st hq=>by rw[hy91 r' e] at hq;exact hq) fun u9 hu=>?_)
     replace h:=hy92 u9 hu
     refine cq 4 [57] [.isl false (s_2.Balances.map I)] 34 ?_
     obtain⟨r10,hr10,h⟩:=bS h
     refine oq 50 (B r10) rfl (cP (Xv hr10)) ?_
     refine cq 3 [4] [B (!r10)] 82 ?_
     obtain rfl:=Option.some.inj h
     exact ai rfl (qp [B (!r10)])
   have r6:∀r',y6=.inl r'→∀st,jl (c_1,s_2) r' st→(jl (c_1,s_2) r) st:=fun r' e st hq=>by rw[hy61 r' e] at hq;exact hq
   replace h:=hy6
   refine sp 29 h rfl (fun h=>?_) fun h=>?_
   ·refine cq 15 [43] [B true] 307 ?_
    exact rf [2,3,43] [1,2] (j6 _ (Option.some.inj h).symm :)
   ·refine cq 2 [31] [.isl false (s_2.Balances.map I)] 115 ?_
    refine oy 131 (I (len s_2.Balances)) rfl (aZ rfl rfl rfl (bg rfl)) ?_
    refine cq 2 [34] [.isl false (c_1.Parties.map str)] 163 ?_
    refine oy 179 (I (len c_1.Parties)) rfl (aZ rfl rfl rfl (bg rfl)) ?_
    refine cq 3 [38] [B ((len s_2.Balances) != (len c_1.Parties))] 227 ?_
    obtain⟨y11,hy11,hy111,hy112⟩:=bL h
    have j11:∀u11,y11=.inr u11→Run sK 0 (jl (c_1,s_2) r) (.code (cR (cL (cR (cR (cR mS)))))::.code (cR (cR (cR (cR mS))))::[]) (sT 60 [(2,.hp 1 0 [] 2 0 0),(3,.hp 2 0 [] 5 0 0),(43,B u11)] [⟨0,2,[.agg [.isl false (c_1.Parties.map str),.isl false (c_1.Clauses.map ac)]]⟩,⟨0,5,[.agg [I s_2.Day,.isl false (s_2.Facts.map str),.isl false (s_2.Duties.map ae),.isl false (s_2.Balances.map I),B s_2.Over]]⟩] 3):=by
     intro u11 hu
     replace h:=hy112 u11 hu
     exact rf [2,3,43] [1,2] (j6 _ (Option.some.inj h).symm :)
    have r11:∀r',y11=.inl r'→∀st,jl (c_1,s_2) r' st→(jl (c_1,s_2) r) st:=fun r' e st hq=>r6 r' (hy111 r' e) st hq
    replace h:=hy11
    refine sp 38 h rfl (fun h=>?_) fun h=>?_
    ·refine cq 6 [43] [B true] 307 ?_
     exact rf [2,3,43] [1,2] (j11 _ (Option.some.inj h).symm :)
    ·refine cq 2 [40] [.isl false (s_2.Balances.map I)] 259 ?_
     obtain⟨r12,hr12,h⟩:=bS h
     refine oy 275 (I r12) rfl (cP (W9 hr12)) ?_
     refine cq 3 [43] [B (r12 != 0)] 307 ?_
     exact rf [2,3,43] [1,2] (j11 _ (Option.some.inj h).symm :)
 have r5:∀r',y5=.inl r'→∀st,jl (c_1,s_2) r' st→(jl (c_1,s_2) r) st:=fun r' e st hq=>by rw[hy51 r' e] at hq;exact hq
 replace h:=hy5
 refine sp 13 h rfl (fun h=>?_) fun h=>?_
 ·refine cq 12 [24] [B true] 369 ?_
  exact rf [2,3,24] [1,17] (j5 _ (Option.some.inj h).symm :)
 ·refine cq 2 [15] [.isl false (s_2.Facts.map str)] 225 ?_
  obtain⟨r13,hr13,h⟩:=bS h
  refine oy 241 (B r13) rfl (cP (YN hr13)) ?_
  refine cq 3 [19] [B (!r13)] 289 ?_
  obtain⟨y14,hy14,hy141,hy142⟩:=bL h
  have j14:∀u14,y14=.inr u14→Run sK 0 (jl (c_1,s_2) r) (.code (cR (cL (cR (cR mS))))::.code (cR (cR (cR mS)))::[]) (sT 60 [(2,.hp 1 0 [] 2 0 0),(3,.hp 2 0 [] 5 0 0),(24,B u14)] [⟨0,2,[.agg [.isl false (c_1.Parties.map str),.isl false (c_1.Clauses.map ac)]]⟩,⟨0,5,[.agg [I s_2.Day,.isl false (s_2.Facts.map str),.isl false (s_2.Duties.map ae),.isl false (s_2.Balances.map I),B s_2.Over]]⟩] 3):=by
   intro u14 hu
   replace h:=hy142 u14 hu
   exact rf [2,3,24] [1,2] (j5 _ (Option.some.inj h).symm :)
  have r14:∀r',y14=.inl r'→∀st,jl (c_1,s_2) r' st→(jl (c_1,s_2) r) st:=fun r' e st hq=>r5 r' (hy141 r' e) st hq
  replace h:=hy14
  refine sp 19 h rfl (fun h=>?_) fun h=>?_
  ·refine cq 6 [24] [B true] 369 ?_
   exact rf [2,3,24] [1,17] (j14 _ (Option.some.inj h).symm :)
  ·refine cq 3 [21,22] [.isl false (s_2.Facts.map str),.fn 129 [.hp 81 0 [] 1 0 0]] 337 ?_
   obtain⟨r15,hr15,h⟩:=bS h
   refine oy 353 (B r15) rfl (bT rfl rfl (ci rfl rfl rfl (bh (bE rfl) (bh (H1 (dx (pj (path:=[]) rfl rfl aN rfl (kE (bz dZ))) kC)) cz)) (Xc hr15) (.inl rfl) dA rfl rfl rfl)) ?_
   refine cq 2 [24] [B r15] 369 ?_
   exact rf [2,3,24] [1,17] (j14 _ (Option.some.inj h).symm :)
theorem SL {G:Go.Ln.Ground}:aH Tryz.prog G 66 EE:=gT 2 0 (aB xD (aB zc (aB SF (aB N9 (aB NW (aB Sx (aB ND bc))))))) (Checked.mixed Tryz.checked) Tryz.func66 (fun a r h=>Vf a.1 a.2 r h)
def Gu:(Contract×State)→List V:=cA aG (oA bI)
def Hc (r:Bool):V×List V:=(B r,[])
noncomputable def Fh:Ent:=aO [false,false] Gu Hc fun x=>FO x.1 x.2
theorem Zd {c_1:Contract}{s_2:State}{r}(h:FO c_1 s_2=some r):Fh.F (Gu (c_1,s_2))=some (Hc r):=aA (aU aQ (az cD)) h
noncomputable def UB:Code:=ay Tryz.f20
noncomputable def Lu:Env:=bG Tryz.prog [(65,ET),(66,EE)]
def Gv (x:Contract×State)(r:Bool):St→Prop:=QF Lu Tryz.f20 [false,false] (Gu x) (Hc r)
theorem Vz (c_1:Contract)(s_2:State)(r:Bool)(h:FO c_1 s_2=some r):ba Lu Tryz.f20 [false,false] 0 (Gu (c_1,s_2)) (Hc r):=by
 show Run _ _ (Gv (c_1,s_2) r) [.code UB] _
 refine rI 12 [(0,.agg [.isl false (c_1.Parties.map str),.isl false (c_1.Clauses.map ac)]),(1,.agg [I s_2.Day,.isl false (s_2.Facts.map str),.isl false (s_2.Duties.map ae),.isl false (s_2.Balances.map I),B s_2.Over])] [] 1 ?_
 unfold FO at h
 refine ck 9 [2,3,5] [] [1,17] [] [.hp 1 0 [] 2 0 0,.hp 17 0 [] 5 0 0,.agg [.isl false (c_1.Parties.map str),.isl false (c_1.Clauses.map ac)]] [some ⟨0,2,[.agg [.isl false (c_1.Parties.map str),.isl false (c_1.Clauses.map ac)]]⟩,some ⟨0,5,[.agg [I s_2.Day,.isl false (s_2.Facts.map str),.isl false (s_2.Duties.map ae),.isl false (s_2.Balances.map I),B s_2.Over]]⟩] 65 (by kernel_rfl) ?_
 obtain⟨r3,hr3,h⟩:=bS h
 refine oq 81 (B r3) rfl (cP (Zr hr3)) ?_
 refine cq 1 [7] [B r3] 97 ?_
 obtain⟨y4,hy4,hy41,hy42⟩:=bJ h
 have j4:∀u4,y4=.inr u4→Run Lu 0 (Gv (c_1,s_2) r) (.code (cR (cR UB))::[]) (sT 12 [(4,B u4)] [] 1):=by
  intro u4 hu
  replace h:=hy42 u4 hu
  obtain rfl:=Option.some.inj h
  exact ai rfl (qp [B u4])
 have r4:∀r',y4=.inl r'→∀st,Gv (c_1,s_2) r' st→(Gv (c_1,s_2) r) st:=fun r' e st hq=>by rw[hy41 r' e] at hq;exact hq
 replace h:=hy4
 refine sp 7 h rfl (fun h=>?_) fun h=>?_
 ·refine cq 2 [8,9] [.agg [.isl false (c_1.Parties.map str),.isl false (c_1.Clauses.map ac)],.agg [I s_2.Day,.isl false (s_2.Facts.map str),.isl false (s_2.Duties.map ae),.isl false (s_2.Balances.map I),B s_2.Over]] 129 ?_
  obtain⟨r5,hr5,h⟩:=bS h
  refine oy 145 (B r5) rfl (cP (Zo hr5)) ?_
  refine cq 3 [4] [B r5] 177 ?_
  exact rf [4] [] (j4 _ (Option.some.inj h).symm :)
 ·refine cq 6 [4] [B false] 177 ?_
  exact rf [4] [] (j4 _ (Option.some.inj h).symm :)
theorem S3 {G:Go.Ln.Ground}:aH Tryz.prog G 20 Fh:=gT 2 0 (aB Ta (aB SL bc)) (Checked.mixed Tryz.checked) Tryz.func20 (fun a r h=>Vz a.1 a.2 r h)
def BP:(List ah)→List V:=oA (eu str)
def Bf (r:(List ah)):V×List V:=(.usl 1 (r.map str),[])
noncomputable def xW:Ent:=aO [false] BP Bf fun x=>xK x
theorem Rb {s_1:List ah}{r}(h:xK s_1=some r):xW.F (BP s_1)=some (Bf r):=aA (az (bi bf)) h
noncomputable def Yv:Code:=ay Tryz.f143
noncomputable def Qf:Env:=bG Tryz.prog []
def Wm (x:(List ah))(r:(List ah)):St→Prop:=QF Qf Tryz.f143 [false] (BP x) (Bf r)
theorem TR (s_1:List ah)(r:(List ah))(h:xK s_1=some r):ba Qf Tryz.f143 [false] 0 (BP s_1) (Bf r):=by
 show Run _ _ (Wm s_1 r) [.code Yv] _
 refine rI 8 [(0,.isl false (s_1.map str))] [] 1 ?_
 unfold xK at h
 refine cq 8 [3] [.isl false (s_1.map str)] 33 ?_
 refine nq (f:=str) (xs:=s_1) true 49 rfl h rfl rfl rfl rfl (fun h=>?_) fun h=>?_
 ·refine aq 1 ?_
  refine nz rfl rfl (fun _=>?_) (fun hb=>by cases hb)
  refine cq 4 [2] [.isl true []] 65 ?_
  refine vH 2 0 1 81 (.hs 65 0 [] 1 0 0) rfl rfl rfl rfl rfl ?_
  obtain rfl:=Option.some.inj h
  exact ai rfl ⟨_,fin (vs:=[.hs 65 0 [] 1 0 0]) rfl (ez (d7 rfl (cf (k:=0) (es:=[]) rfl rfl)) dP) rfl (d8 eB),ey⟩
 ·refine aq 1 ?_
  refine nz rfl rfl (fun hb=>by cases hb) (fun _=>?_)
  refine aq 3 ?_
  refine oq 65 (.hs 49 0 [] 1 0 0) rfl (eC rfl (na (f:=I) (xs:=[]) (z:=str ([])) (es:=[]) (ws:=[]) rfl rfl rfl (by decide) rfl (dK rfl) rfl)) ?_
  refine cq 1 [6] [.isl false (s_1.map str)] 81 ?_
  obtain⟨a2,ha2,h⟩:=bS h
  refine oq 97 (.hs 81 0 [] 1 0 (a2.map str).length) rfl (js rfl rfl rfl rfl rfl (nH (path:=[]) (es0:=[]) (f:=str) (xs:=([]:List ah)) (ys:=s_1) rfl rfl yt rfl rfl rfl rfl rfl (by decide) ix ha2 rfl oV)) ?_
  refine cq 2 [2] [.hs 81 0 [] 1 0 (a2.map str).length] 113 ?_
  obtain rfl:=Option.some.inj h
  exact ai rfl ⟨_,fin (vs:=[.hs 81 0 [] 1 0 (a2.map str).length]) rfl (ez (d7 rfl (cf rfl rfl)) dP) rfl (d8 eB),ey⟩
theorem M5 {G:Go.Ln.Ground}:aH Tryz.prog G 143 xW:=gT 1 0 bc (Checked.mixed Tryz.checked) Tryz.func143 (fun a r h=>TR a r h)
def DD:(List Duty)→List V:=oA (eu ae)
def BW (r:(List Duty)):V×List V:=(.usl 4 (r.map ae),[])
noncomputable def zH:Ent:=aO [false] DD BW fun x=>yO x
theorem P5 {s_1:List Duty}{r}(h:yO s_1=some r):zH.F (DD s_1)=some (BW r):=aA (az (bi cO)) h
noncomputable def Wj:Code:=ay Tryz.f198
noncomputable def QX:Env:=bG Tryz.prog []
def WR (x:(List Duty))(r:(List Duty)):St→Prop:=QF QX Tryz.f198 [false] (DD x) (BW r)
theorem Su (s_1:List Duty)(r:(List Duty))(h:yO s_1=some r):ba QX Tryz.f198 [false] 0 (DD s_1) (BW r):=by
 show Run _ _ (WR s_1 r) [.code Wj] _
 refine rI 8 [(0,.isl false (s_1.map ae))] [] 1 ?_
 unfold yO at h
 refine cq 8 [3] [.isl false (s_1.map ae)] 33 ?_
 refine nq (f:=ae) (xs:=s_1) true 49 rfl h rfl rfl rfl rfl (fun h=>?_) fun h=>?_
 ·refine aq 1 ?_
  refine nz rfl rfl (fun _=>?_) (fun hb=>by cases hb)
  refine cq 4 [2] [.isl true []] 65 ?_
  refine vH 2 0 4 81 (.hs 65 0 [] 4 0 0) rfl rfl rfl rfl rfl ?_
  obtain rfl:=Option.some.inj h
  exact ai rfl ⟨_,fin (vs:=[.hs 65 0 [] 4 0 0]) rfl (ez (d7 rfl (cf (k:=0) (es:=[]) rfl rfl)) dP) rfl (d8 eB),ey⟩
 ·refine aq 1 ?_
  refine nz rfl rfl (fun hb=>by cases hb) (fun _=>?_)
  refine aq 3 ?_
  refine oq 65 (.hs 49 0 [] 4 0 0) rfl (eC rfl (na (f:=I) (xs:=[]) (z:=.agg [I (0),I (0),I (0),I (0)]) (es:=[]) (ws:=[]) rfl rfl rfl (by decide) rfl (dK rfl) rfl)) ?_
  refine cq 1 [6] [.isl false (s_1.map ae)] 81 ?_
  obtain⟨a2,ha2,h⟩:=bS h
  refine oq 97 (.hs 81 0 [] 4 0 (a2.map ae).length) rfl (js rfl rfl rfl rfl rfl (nH (path:=[]) (es0:=[]) (f:=ae) (xs:=([]:List Duty)) (ys:=s_1) rfl rfl yt rfl rfl rfl rfl rfl (by decide) rL ha2 rfl oV)) ?_
  refine cq 2 [2] [.hs 81 0 [] 4 0 (a2.map ae).length] 113 ?_
  obtain rfl:=Option.some.inj h
  exact ai rfl ⟨_,fin (vs:=[.hs 81 0 [] 4 0 (a2.map ae).length]) rfl (ez (d7 rfl (cf rfl rfl)) dP) rfl (d8 eB),ey⟩
theorem Rh {G:Go.Ln.Ground}:aH Tryz.prog G 198 zH:=gT 1 0 bc (Checked.mixed Tryz.checked) Tryz.func198 (fun a r h=>Su a r h)
def Du:(List Int)→List V:=oA (eu I)
def CT (r:(List Int)):V×List V:=(.usl 1 (r.map I),[])
noncomputable def zB:Ent:=aO [false] Du CT fun x=>yi x
theorem N7 {s_1:List Int}{r}(h:yi s_1=some r):zB.F (Du s_1)=some (CT r):=aA (az (bi bA)) h
noncomputable def Xs:Code:=ay Tryz.f199
noncomputable def NK:Env:=bG Tryz.prog []
def XY (x:(List Int))(r:(List Int)):St→Prop:=QF NK Tryz.f199 [false] (Du x) (CT r)
theorem SZ (s_1:List Int)(r:(List Int))(h:yi s_1=some r):ba NK Tryz.f199 [false] 0 (Du s_1) (CT r):=by
 show Run _ _ (XY s_1 r) [.code Xs] _
 refine rI 8 [(0,.isl false (s_1.map I))] [] 1 ?_
 unfold yi at h
 refine cq 8 [3] [.isl false (s_1.map I)] 33 ?_
 refine nq (f:=I) (xs:=s_1) true 49 rfl h rfl rfl rfl rfl (fun h=>?_) fun h=>?_
 ·refine aq 1 ?_
  refine nz rfl rfl (fun _=>?_) (fun hb=>by cases hb)
  refine cq 4 [2] [.isl true []] 65 ?_
  refine vH 2 0 1 81 (.hs 65 0 [] 1 0 0) rfl rfl rfl rfl rfl ?_
  obtain rfl:=Option.some.inj h
  exact ai rfl ⟨_,fin (vs:=[.hs 65 0 [] 1 0 0]) rfl (ez (d7 rfl (cf (k:=0) (es:=[]) rfl rfl)) dP) rfl (d8 eB),ey⟩
 ·refine aq 1 ?_
  refine nz rfl rfl (fun hb=>by cases hb) (fun _=>?_)
  refine aq 3 ?_
  refine oq 65 (.hs 49 0 [] 1 0 0) rfl (eC rfl (na (f:=I) (xs:=[]) (z:=I (0)) (es:=[]) (ws:=[]) rfl rfl rfl (by decide) rfl (dK rfl) rfl)) ?_
  refine cq 1 [6] [.isl false (s_1.map I)] 81 ?_
  obtain⟨a2,ha2,h⟩:=bS h
  refine oq 97 (.hs 81 0 [] 1 0 (a2.map I).length) rfl (js rfl rfl rfl rfl rfl (nH (path:=[]) (es0:=[]) (f:=I) (xs:=([]:List Int)) (ys:=s_1) rfl rfl yt rfl rfl rfl rfl rfl (by decide) VA ha2 rfl oV)) ?_
  refine cq 2 [2] [.hs 81 0 [] 1 0 (a2.map I).length] 113 ?_
  obtain rfl:=Option.some.inj h
  exact ai rfl ⟨_,fin (vs:=[.hs 81 0 [] 1 0 (a2.map I).length]) rfl (ez (d7 rfl (cf rfl rfl)) dP) rfl (d8 eB),ey⟩
theorem Ot {G:Go.Ln.Ground}:aH Tryz.prog G 199 zB:=gT 1 0 bc (Checked.mixed Tryz.checked) Tryz.func199 (fun a r h=>SZ a r h)
def Gj:State→List V:=oA bI
def G4 (r:State):V×List V:=(.agg [I r.Day,.usl 1 (r.Facts.map str),.usl 4 (r.Duties.map ae),.usl 1 (r.Balances.map I),B r.Over],[])
noncomputable def Fc:Ent:=aO [false] Gj G4 fun x=>Hi x
theorem UC {s_1:State}{r}(h:Hi s_1=some r):Fc.F (Gj s_1)=some (G4 r):=aA (az cD) h
noncomputable def YC:Code:=ay Tryz.f152
noncomputable def UD:Env:=bG Tryz.prog [(143,xW),(198,zH),(199,zB)]
def YV (x:State)(r:State):St→Prop:=QF UD Tryz.f152 [false] (Gj x) (G4 r)
theorem Vd (s_1:State)(r:State)(h:Hi s_1=some r):ba UD Tryz.f152 [false] 0 (Gj s_1) (G4 r):=by
 show Run _ _ (YV s_1 r) [.code YC] _
 refine rI 16 [(0,.agg [I s_1.Day,.isl false (s_1.Facts.map str),.isl false (s_1.Duties.map ae),.isl false (s_1.Balances.map I),B s_1.Over])] [] 1 ?_
 unfold Hi at h
 refine ck 4 [1,2] [] [1,17] [] [.hp 1 0 [] 5 0 0,.hp 17 0 [] 5 0 0] [some ⟨0,5,[.agg [I s_1.Day,.isl false (s_1.Facts.map str),.isl false (s_1.Duties.map ae),.isl false (s_1.Balances.map I),B s_1.Over]]⟩,some ⟨0,5,[.agg [I (0),.isl true [],.isl true [],.isl true [],B false]]⟩] 33 (by kernel_rfl) ?_
 refine eb 17 [.agg [I (0),.usl 1 (([]).map str),.usl 4 (([]).map ae),.usl 1 (([]).map I),B false]] rfl rfl (au (eU (au (.refl _) (au (.nil _) (au (.nil _) (au (.nil _) (au (.refl _) dm)))))) dm) ?_
 refine aq 2 ?_
 refine dN [0,1,3,0,8,31,0,64,255,223,1023,2047,4095,8191,16383] rfl (by decide +kernel) ?_
 refine dq [1] [] (.hp 1 0 [] 5 0 1) rfl (ak rfl rfl rfl) ?_
 refine dq [1] [] (.isl false (s_1.Facts.map str)) rfl (aL rfl rfl) ?_
 obtain⟨r2,hr2,h⟩:=bS h
 refine dq [] [] (.hs 65 0 [] 1 0 (r2.map str).length) rfl (cP (Rb hr2)) ?_ (ct rfl rfl rfl rfl (bh (bE rfl) cz) (Rb hr2) (.inr rfl) rfl)
 refine dq [1] [] (.hp 1 0 [] 5 0 2) rfl (ak rfl rfl rfl) ?_
 refine dq [1] [] (.isl false (s_1.Duties.map ae)) rfl (aL rfl rfl) ?_
 obtain⟨r3,hr3,h⟩:=bS h
 refine dq [] [] (.hs 113 0 [] 4 0 (r3.map ae).length) rfl (cP (P5 hr3)) ?_ (ct rfl rfl rfl rfl (bh (bE rfl) cz) (P5 hr3) (.inr rfl) rfl)
 refine dq [1] [] (.hp 1 0 [] 5 0 3) rfl (ak rfl rfl rfl) ?_
 refine dq [1] [] (.isl false (s_1.Balances.map I)) rfl (aL rfl rfl) ?_
 obtain⟨r4,hr4,h⟩:=bS h
 refine dq [] [] (.hs 161 0 [] 1 0 (r4.map I).length) rfl (cP (N7 hr4)) ?_ (ct rfl rfl rfl rfl (bh (bE rfl) cz) (N7 hr4) (.inr rfl) rfl)
 refine dq [1] [] (.hp 1 0 [] 5 0 1) rfl (ak rfl rfl rfl) ?_
 refine dz [1,65] [1,65] rfl (fD rfl rfl (eA (path:=[]) (pl:=false) (e':=.agg [I s_1.Day,.usl 1 (r2.map str),.isl false (s_1.Duties.map ae),.isl false (s_1.Balances.map I),B s_1.Over]) (es2':=[.agg [I s_1.Day,.usl 1 (r2.map str),.isl false (s_1.Duties.map ae),.isl false (s_1.Balances.map I),B s_1.Over]]) rfl (d7 rfl (cf rfl rfl)) rfl rfl rfl aN rfl rfl rfl rfl rfl du 1 rfl)) ?_
 refine dq [1] [] (.hp 1 0 [] 5 0 2) rfl (ak rfl rfl rfl) ?_
 refine dz [1,113] [1,113] rfl (fD rfl rfl (eA (path:=[]) (pl:=false) (e':=.agg [I s_1.Day,.usl 1 (r2.map str),.usl 4 (r3.map ae),.isl false (s_1.Balances.map I),B s_1.Over]) (es2':=[.agg [I s_1.Day,.usl 1 (r2.map str),.usl 4 (r3.map ae),.isl false (s_1.Balances.map I),B s_1.Over]]) rfl (d7 rfl (cf rfl rfl)) rfl rfl rfl aN rfl rfl rfl rfl rfl du 2 rfl)) ?_
 refine dq [1] [] (.hp 1 0 [] 5 0 3) rfl (ak rfl rfl rfl) ?_
 refine dz [1,161] [1,161] rfl (fD rfl rfl (eA (path:=[]) (pl:=false) (e':=.agg [I s_1.Day,.usl 1 (r2.map str),.usl 4 (r3.map ae),.usl 1 (r4.map I),B s_1.Over]) (es2':=[.agg [I s_1.Day,.usl 1 (r2.map str),.usl 4 (r3.map ae),.usl 1 (r4.map I),B s_1.Over]]) rfl (d7 rfl (cf rfl rfl)) rfl rfl rfl aN rfl rfl rfl rfl rfl du 3 rfl)) ?_
 refine de 273 rfl rfl ?_
 refine cq 3 [15] [.agg [I s_1.Day,.hs 1 3 [(0,1)] 1 0 (r2.map str).length,.hs 1 3 [(0,2)] 4 0 (r3.map ae).length,.hs 1 3 [(0,3)] 1 0 (r4.map I).length,B s_1.Over]] 289 ?_
 refine o0 305 rfl rfl (fD rfl rfl (eA (path:=[]) (pl:=false) (e':=.agg [I s_1.Day,.usl 1 (r2.map str),.usl 4 (r3.map ae),.usl 1 (r4.map I),B s_1.Over]) (es2':=[.agg [I s_1.Day,.usl 1 (r2.map str),.usl 4 (r3.map ae),.usl 1 (r4.map I),B s_1.Over]]) rfl (ku (bq (bQ rfl) (bq (eD (path:=[(0,1)]) rfl rfl (ec rfl rfl aN) rfl (ij (path:=[]) (i:=0) (k:=1) (e':=.agg [I s_1.Day,.dead,.usl 4 (r3.map ae),.usl 1 (r4.map I),B s_1.Over]) (es2':=[.agg [I s_1.Day,.dead,.usl 4 (r3.map ae),.usl 1 (r4.map I),B s_1.Over]]) aN rfl rfl rfl du)) (bq (eD (path:=[(0,2)]) rfl rfl (ec rfl rfl aN) rfl (ij (path:=[]) (i:=0) (k:=2) (e':=.agg [I s_1.Day,.dead,.dead,.usl 1 (r4.map I),B s_1.Over]) (es2':=[.agg [I s_1.Day,.dead,.dead,.usl 1 (r4.map I),B s_1.Over]]) aN rfl rfl rfl du)) (bq (eD (path:=[(0,3)]) rfl rfl (ec rfl rfl aN) rfl (ij (path:=[]) (i:=0) (k:=3) (e':=.agg [I s_1.Day,.dead,.dead,.dead,B s_1.Over]) (es2':=[.agg [I s_1.Day,.dead,.dead,.dead,B s_1.Over]]) aN rfl rfl rfl du)) (bq (bQ rfl) kv)))))) rfl rfl rfl aN rfl rfl rfl rfl rfl du 2 rfl)) ?_
 refine aq 1 ?_
 obtain rfl:=Option.some.inj h
 exact ai rfl ⟨_,fin (vs:=[.agg [I s_1.Day,.hs 17 2 [(0,1)] 1 0 (r2.map str).length,.hs 17 2 [(0,2)] 4 0 (r3.map ae).length,.hs 17 2 [(0,3)] 1 0 (r4.map I).length,B s_1.Over]]) (EV (oC rfl rfl rfl) EC) (ez (ku (bq (bQ rfl) (bq (eD (path:=[(0,1)]) rfl rfl (ec rfl rfl aN) rfl (ij (path:=[]) (i:=0) (k:=1) (e':=.agg [I s_1.Day,.dead,.usl 4 (r3.map ae),.usl 1 (r4.map I),B s_1.Over]) (es2':=[.agg [I s_1.Day,.dead,.usl 4 (r3.map ae),.usl 1 (r4.map I),B s_1.Over]]) aN rfl rfl rfl du)) (bq (eD (path:=[(0,2)]) rfl rfl (ec rfl rfl aN) rfl (ij (path:=[]) (i:=0) (k:=2) (e':=.agg [I s_1.Day,.dead,.dead,.usl 1 (r4.map I),B s_1.Over]) (es2':=[.agg [I s_1.Day,.dead,.dead,.usl 1 (r4.map I),B s_1.Over]]) aN rfl rfl rfl du)) (bq (eD (path:=[(0,3)]) rfl rfl (ec rfl rfl aN) rfl (ij (path:=[]) (i:=0) (k:=3) (e':=.agg [I s_1.Day,.dead,.dead,.dead,B s_1.Over]) (es2':=[.agg [I s_1.Day,.dead,.dead,.dead,B s_1.Over]]) aN rfl rfl rfl du)) (bq (bQ rfl) kv)))))) dP) rfl (d8 eB),ey⟩
theorem R9 {G:Go.Ln.Ground}:aH Tryz.prog G 152 Fc:=gT 1 0 (aB M5 (aB Rh (aB Ot bc))) (Checked.mixed Tryz.checked) Tryz.func152 (fun a r h=>Vd a r h)
def GN:(Contract×State)→List V:=cA aG (oA bI)
def Hb (r:machine):V×List V:=(.uptr (Ht r),[])
noncomputable def EO:Ent:=aO [false,false] GN Hb fun x=>Hv x.1 x.2
theorem Ui {c_1:Contract}{s_2:State}{r}(h:Hv c_1 s_2=some r):EO.F (GN (c_1,s_2))=some (Hb r):=aA (aU aQ (az cD)) h
noncomputable def Y8:Code:=ay Tryz.f87
noncomputable def Uo:Env:=bG Tryz.prog [(152,Fc),(125,qA)]
def Zj (x:Contract×State)(r:machine):St→Prop:=QF Uo Tryz.f87 [false,false] (GN x) (Hb r)
theorem Vw (c_1:Contract)(s_2:State)(r:machine)(h:Hv c_1 s_2=some r):ba Uo Tryz.f87 [false,false] 0 (GN (c_1,s_2)) (Hb r):=by
 show Run _ _ (Zj (c_1,s_2) r) [.code Y8] _
 refine rI 12 [(0,.agg [.isl false (c_1.Parties.map str),.isl false (c_1.Clauses.map ac)]),(1,.agg [I s_2.Day,.isl false (s_2.Facts.map str),.isl false (s_2.Duties.map ae),.isl false (s_2.Balances.map I),B s_2.Over])] [] 1 ?_
 unfold Hv at h
 refine ck 7 [2,3] [] [1,17] [] [.hp 1 0 [] 2 0 0,.hp 17 0 [] 5 0 0] [some ⟨0,2,[.agg [.isl false (c_1.Parties.map str),.isl false (c_1.Clauses.map ac)]]⟩,some ⟨0,5,[.agg [I s_2.Day,.isl false (s_2.Facts.map str),.isl false (s_2.Duties.map ae),.isl false (s_2.Balances.map I),B s_2.Over]]⟩] 49 (by kernel_rfl) ?_
 refine dN [0,0,2,0,14,31,63,127] rfl (by decide +kernel) ?_
 refine dq [1] [] (.agg [.isl false (c_1.Parties.map str),.isl false (c_1.Clauses.map ac)]) rfl (aL rfl rfl) ?_
 refine dq [17] [] (.agg [I s_2.Day,.isl false (s_2.Facts.map str),.isl false (s_2.Duties.map ae),.isl false (s_2.Balances.map I),B s_2.Over]) rfl (aL rfl rfl) ?_
 obtain⟨r3,hr3,h⟩:=bS h
 refine dq [] [] (.agg [I r3.Day,.hs 81 0 [] 1 0 (r3.Facts.map str).length,.hs 82 0 [] 4 0 (r3.Duties.map ae).length,.hs 83 0 [] 1 0 (r3.Balances.map I).length,B r3.Over]) rfl (cP (UC hr3)) ?_ (ct rfl rfl rfl rfl (bh (bE rfl) cz) (UC hr3) (.inr rfl) rfl)
 refine dq [1] [] (.agg [.isl false (c_1.Parties.map str),.isl false (c_1.Clauses.map ac)]) rfl (aL rfl rfl) ?_
 obtain⟨r4,hr4,h⟩:=bS h
 refine dq [] [] (.hs 113 0 [] 1 0 (r4.map str).length) rfl (cP (GA hr4)) ?_ (ct rfl rfl rfl rfl (bh (bE rfl) cz) (GA hr4) (.inr rfl) rfl)
 refine dk 1 [10] [.agg [.isl false (c_1.Parties.map str),.isl false (c_1.Clauses.map ac),I r3.Day,.hs 81 0 [] 1 0 (r3.Facts.map str).length,.hs 82 0 [] 4 0 (r3.Duties.map ae).length,.hs 83 0 [] 1 0 (r3.Balances.map I).length,B r3.Over,.hs 113 0 [] 1 0 (r4.map str).length,.isl true [],B false]] ?_
 refine dq [81,82,83,113] [81,82,83,113] (.hp 145 0 [] 10 0 0) rfl (Xd rfl (ku (bq (bQ rfl) (bq (bQ rfl) (bq (bQ rfl) (bq (cf rfl rfl) (bq (cf rfl rfl) (bq (cf rfl rfl) (bq (bQ rfl) (bq (cf rfl rfl) (bq (bQ rfl) (bq (bQ rfl) kv))))))))))) rfl) ?_
 refine dk 1 [4] [.hp 145 0 [] 10 0 0] ?_
 refine de 177 rfl rfl ?_
 refine eb 145 [.agg [.isl false (c_1.Parties.map str),.isl false (c_1.Clauses.map ac),I r3.Day,.usl 1 (r3.Facts.map str),.usl 4 (r3.Duties.map ae),.usl 1 (r3.Balances.map I),B r3.Over,.usl 1 (r4.map str),.usl 4 (([]).map jv),B false]] rfl rfl (au (eU (au (.refl _) (au (.refl _) (au (.refl _) (au (.refl _) (au (.refl _) (au (.refl _) (au (.refl _) (au (.refl _) (au (.nil _) (au (.refl _) dm))))))))))) dm) ?_
 obtain rfl:=Option.some.inj h
 exact ai rfl ⟨_,fin (vs:=[.hp 145 0 [] 10 0 0]) rfl (ez (d7 rfl (U8 (path:=[]) rfl rfl aN oV)) dP) rfl (d8 (d8 eB)),ey⟩
theorem SO {G:Go.Ln.Ground}:aH Tryz.prog G 87 EO:=gT 2 0 (aB R9 (aB xD bc)) (Checked.mixed Tryz.checked) Tryz.func87 (fun a r h=>Vw a.1 a.2 r h)
def C9:(Condition×(List ah)×Int)→List V:=cA aP (cA (eu str) (oA I))
def D6 (r:Bool):V×List V:=(B r,[])
noncomputable def yV (slf_Ffk:(Condition×(List ah)×Int)→Option Bool):Ent:=aO [false,false,false] C9 D6 slf_Ffk
theorem qD (slf_Ffk:(Condition×(List ah)×Int)→Option Bool){x}{r}(h:slf_Ffk x=some r):(yV slf_Ffk).F (C9 x)=some (D6 r):=aA (aU cb (aU (bi bf) (az bA))) h
noncomputable def Et:Ent:=yV (aE l5)
theorem Ug {c_1:Condition}{facts_2:List ah}{day_3:Int}{r}(h:Il c_1 facts_2 day_3=some r):Et.F (C9 (c_1,facts_2,day_3))=some (D6 r):=qD (aE l5) h
noncomputable def AV:Code:=ay Tryz.f153
noncomputable def GF (slf_Ffk:(Condition×(List ah)×Int)→Option Bool):Env:=bG Tryz.prog [(130,mH),(153,(yV slf_Ffk))]
def rU (slf_Ffk:(Condition×(List ah)×Int)→Option Bool)(x:Condition×(List ah)×Int)(r:Bool):St→Prop:=QF (GF slf_Ffk) Tryz.f153 [false,false,false] (C9 x) (D6 r)
theorem US (slf_Ffk:(Condition×(List ah)×Int)→Option Bool)(c_1:Condition)(facts_2:List ah)(day_3:Int)(r:Bool)(h:vN slf_Ffk c_1 facts_2 day_3=some r):ba (GF slf_Ffk) Tryz.f153 [false,false,false] 0 (C9 (c_1,facts_2,day_3)) (D6 r):=by
 show Run _ _ (rU slf_Ffk (c_1,facts_2,day_3) r) [.code AV] _
 refine rI 67 [(0,.agg [I c_1.Op,str c_1.Name,I c_1.Day,.isl false (c_1.Parts.map aa)]),(1,.isl false (facts_2.map str)),(2,I day_3)] [] 1 ?_
 unfold vN at h
 refine ck 17 [3,8,9] [] [1] [] [.hp 1 0 [] 4 0 0,I c_1.Op,B (c_1.Op==2)] [some ⟨0,4,[.agg [I c_1.Op,str c_1.Name,I c_1.Day,.isl false (c_1.Parts.map aa)]]⟩] 97 (by kernel_rfl) ?_
 refine sq h (fun h=>?_) fun h=>?_
 ·refine cq 5 [11,13] [.isl false (facts_2.map str),str c_1.Name] 145 ?_
  obtain⟨r4,hr4,h⟩:=bS h
  refine oq 161 (B r4) rfl (cP (BU hr4)) ?_
  refine cq 2 [6] [B r4] 177 ?_
  obtain rfl:=Option.some.inj h
  exact ai rfl (qp [B r4])
 ·refine cq 5 [15] [B (c_1.Op==3)] 129 ?_
  refine sq h (fun h=>?_) fun h=>?_
  ·refine cq 8 [6] [B (decide (day_3≥c_1.Day))] 209 ?_
   obtain rfl:=Option.some.inj h
   exact ai rfl (qp [B (decide (day_3≥c_1.Day))])
  ·refine cq 5 [21] [B (c_1.Op==4)] 161 ?_
   refine sq h (fun h=>?_) fun h=>?_
   ·refine cq 4 [24] [.isl false (c_1.Parts.map aa)] 193 ?_
    obtain⟨e5,he5,h⟩:=bS h
    refine oq 209 (.iptr (.agg [I e5.Op,str e5.Name,I e5.Day,.isl false (e5.Parts.map aa)]) 0) rfl (al rfl rfl rfl (aM rfl rfl (bb e5) rfl he5)) ?_
    refine cq 3 [26,27,28] [.agg [I e5.Op,str e5.Name,I e5.Day,.isl false (e5.Parts.map aa)],.isl false (facts_2.map str),I day_3] 257 ?_
    obtain⟨r6,hr6,h⟩:=bS h
    refine oq 273 (B r6) rfl (bT rfl rfl (ci rfl rfl rfl (bh (bE rfl) (bh (bE rfl) (bh (bE rfl) cz))) (qD slf_Ffk hr6) (.inr rfl) dA rfl rfl rfl)) ?_
    refine cq 3 [6] [B (!r6)] 305 ?_
    obtain rfl:=Option.some.inj h
    exact ai rfl (qp [B (!r6)])
   ·refine cq 5 [31] [B (c_1.Op==5)] 193 ?_
    refine sq h (fun h=>?_) fun h=>?_
    ·refine cq 4 [34] [.isl false (c_1.Parts.map aa)] 225 ?_
     obtain⟨e7,he7,h⟩:=bS h
     refine oq 241 (.iptr (.agg [I e7.Op,str e7.Name,I e7.Day,.isl false (e7.Parts.map aa)]) 0) rfl (al rfl rfl rfl (aM rfl rfl (bb e7) rfl he7)) ?_
     refine cq 3 [36,37,38] [.agg [I e7.Op,str e7.Name,I e7.Day,.isl false (e7.Parts.map aa)],.isl false (facts_2.map str),I day_3] 289 ?_
     obtain⟨r8,hr8,h⟩:=bS h
     refine oq 305 (B r8) rfl (bT rfl rfl (ci rfl rfl rfl (bh (bE rfl) (bh (bE rfl) (bh (bE rfl) cz))) (qD slf_Ffk hr8) (.inr rfl) dA rfl rfl rfl)) ?_
     refine cq 1 [40] [B r8] 321 ?_
     obtain⟨y9,hy9,hy91,hy92⟩:=bJ h
     have j9:∀u9,y9=.inr u9→Run (GF slf_Ffk) 0 (rU slf_Ffk (c_1,facts_2,day_3) r) (.code (cR (cL (cR (cR (cR (cR (cR (cR (cR (cL (cR (cL (cR AV)))))))))))))::.blk 0::.code (cR (cR AV))::[]) (sT 67 [(6,B u9)] [] 1):=by
      intro u9 hu
      replace h:=hy92 u9 hu
      obtain rfl:=Option.some.inj h
      exact ai rfl (qp [B u9])
     have r9:∀r',y9=.inl r'→∀st,rU slf_Ffk (c_1,facts_2,day_3) r' st→(rU slf_Ffk (c_1,facts_2,day_3) r) st:=fun r' e st hq=>by rw[hy91 r' e] at hq;exact hq
     replace h:=hy9
     refine sp 40 h rfl (fun h=>?_) fun h=>?_
     ·refine cq 2 [42] [.isl false (c_1.Parts.map aa)] 353 ?_
      obtain⟨e10,he10,h⟩:=bS h
      refine oy 369 (.iptr (.agg [I e10.Op,str e10.Name,I e10.Day,.isl false (e10.Parts.map aa)]) 0) rfl (al rfl rfl rfl (aM rfl rfl (bb e10) rfl he10)) ?_
      refine cq 3 [44,45,46] [.agg [I e10.Op,str e10.Name,I e10.Day,.isl false (e10.Parts.map aa)],.isl false (facts_2.map str),I day_3] 417 ?_
      obtain⟨r11,hr11,h⟩:=bS h
      refine oy 433 (B r11) rfl (bT rfl rfl (ci rfl rfl rfl (bh (bE rfl) (bh (bE rfl) (bh (bE rfl) cz))) (qD slf_Ffk hr11) (.inr rfl) dA rfl rfl rfl)) ?_
      refine cq 3 [6] [B r11] 465 ?_
      exact rf [6] [] (j9 _ (Option.some.inj h).symm :)
     ·refine cq 10 [6] [B false] 465 ?_
      exact rf [6] [] (j9 _ (Option.some.inj h).symm :)
    ·refine cq 5 [49] [B (c_1.Op==6)] 225 ?_
     refine sq h (fun h=>?_) fun h=>?_
     ·refine cq 4 [52] [.isl false (c_1.Parts.map aa)] 257 ?_
      obtain⟨e12,he12,h⟩:=bS h
      refine oq 273 (.iptr (.agg [I e12.Op,str e12.Name,I e12.Day,.isl false (e12.Parts.map aa)]) 0) rfl (al rfl rfl rfl (aM rfl rfl (bb e12) rfl he12)) ?_
      refine cq 3 [54,55,56] [.agg [I e12.Op,str e12.Name,I e12.Day,.isl false (e12.Parts.map aa)],.isl false (facts_2.map str),I day_3] 321 ?_
      obtain⟨r13,hr13,h⟩:=bS h
      refine oq 337 (B r13) rfl (bT rfl rfl (ci rfl rfl rfl (bh (bE rfl) (bh (bE rfl) (bh (bE rfl) cz))) (qD slf_Ffk hr13) (.inr rfl) dA rfl rfl rfl)) ?_
      refine cq 1 [58] [B r13] 353 ?_
      obtain⟨y14,hy14,hy141,hy142⟩:=bJ h
      have j14:∀u14,y14=.inr u14→Run (GF slf_Ffk) 0 (rU slf_Ffk (c_1,facts_2,day_3) r) (.code (cR (cL (cR (cR (cR (cR (cR (cR (cR (cR (cR (cL (cR (cL (cR AV)))))))))))))))::.blk 0::.code (cR (cR AV))::[]) (sT 67 [(6,B u14)] [] 1):=by
       intro u14 hu
       replace h:=hy142 u14 hu
       obtain rfl:=Option.some.inj h
       exact ai rfl (qp [B u14])
      have r14:∀r',y14=.inl r'→∀st,rU slf_Ffk (c_1,facts_2,day_3) r' st→(rU slf_Ffk (c_1,facts_2,day_3) r) st:=fun r' e st hq=>by rw[hy141 r' e] at hq;exact hq
      replace h:=hy14
      refine sp 58 h rfl (fun h=>?_) fun h=>?_
      ·refine cq 10 [6] [B true] 497 ?_
       exact rf [6] [] (j14 _ (Option.some.inj h).symm :)
      ·refine cq 2 [60] [.isl false (c_1.Parts.map aa)] 385 ?_
       obtain⟨e15,he15,h⟩:=bS h
       refine oy 401 (.iptr (.agg [I e15.Op,str e15.Name,I e15.Day,.isl false (e15.Parts.map aa)]) 0) rfl (al rfl rfl rfl (aM rfl rfl (bb e15) rfl he15)) ?_
       refine cq 3 [62,63,64] [.agg [I e15.Op,str e15.Name,I e15.Day,.isl false (e15.Parts.map aa)],.isl false (facts_2.map str),I day_3] 449 ?_
       obtain⟨r16,hr16,h⟩:=bS h
       refine oy 465 (B r16) rfl (bT rfl rfl (ci rfl rfl rfl (bh (bE rfl) (bh (bE rfl) (bh (bE rfl) cz))) (qD slf_Ffk hr16) (.inr rfl) dA rfl rfl rfl)) ?_
       refine cq 3 [6] [B r16] 497 ?_
       exact rf [6] [] (j14 _ (Option.some.inj h).symm :)
     ·refine aq 1 ?_
      refine cq 5 [6] [B true] 241 ?_
      obtain rfl:=Option.some.inj h
      exact ai rfl (qp [B true])
theorem TJ {G:Go.Ln.Ground}:aH Tryz.prog G 153 Et:=gK fun slf_Ffk g_Ffk=>gT 3 0 (aB pE (aB g_Ffk bc)) (Checked.mixed Tryz.checked) Tryz.func153 (fun a r h=>US slf_Ffk a.1 a.2.1 a.2.2 r h)
def Gy:(machine×Clause)→List V:=cA (ZK dV) (oA ac)
def He (r:Bool):V×List V:=(B r,[])
noncomputable def Eu:Ent:=aO [false,false] Gy He fun x=>IU x.1 x.2
theorem Uv {m_1:machine}{x_2:Clause}{r}(h:IU m_1 x_2=some r):Eu.F (Gy (m_1,x_2))=some (He r):=aA (aU (mO zi) (az cm)) h
noncomputable def Y9:Code:=ay Tryz.f88
noncomputable def Um:Env:=bG Tryz.prog [(153,Et)]
def YL (x:machine×Clause)(r:Bool):St→Prop:=QF Um Tryz.f88 [false,false] (Gy x) (He r)
theorem Vj (m_1:machine)(x_2:Clause)(r:Bool)(h:IU m_1 x_2=some r):ba Um Tryz.f88 [false,false] 0 (Gy (m_1,x_2)) (He r):=by
 show Run _ _ (YL (m_1,x_2) r) [.code Y9] _
 refine rI 18 [(0,.iptr (dV m_1) 0),(1,.agg [str x_2.Id,I x_2.Kind,I x_2.Party,str x_2.Action,I x_2.Other,I x_2.Amount,I x_2.When.Op,str x_2.When.Name,I x_2.When.Day,.isl false (x_2.When.Parts.map aa),I x_2.Within,str x_2.Repair])] [] 1 ?_
 unfold IU at h
 refine ck 6 [3] [] [1] [] [.hp 1 0 [] 12 0 0] [some ⟨0,12,[.agg [str x_2.Id,I x_2.Kind,I x_2.Party,str x_2.Action,I x_2.Other,I x_2.Amount,I x_2.When.Op,str x_2.When.Name,I x_2.When.Day,.isl false (x_2.When.Parts.map aa),I x_2.Within,str x_2.Repair]]⟩] 33 (by kernel_rfl) ?_
 refine dN [0,1,0,4,12,28,60,0,128,384,896,1920,4095,8191] rfl (by decide +kernel) ?_
 refine dq [1] [] (.hp 1 0 [] 12 0 6) rfl (ak rfl rfl rfl) ?_
 refine dq [1] [] (.agg [I x_2.When.Op,str x_2.When.Name,I x_2.When.Day,.isl false (x_2.When.Parts.map aa)]) rfl (aL rfl rfl) ?_
 refine dk 1 [7] [.iptr (dV m_1) 0] ?_
 refine dq [] [] (.iptr (dV m_1) 0) rfl (BH rfl rfl) ?_
 refine dq [] [] (.iptr (dV m_1) 2) rfl (ak rfl rfl rfl) ?_
 refine dq [] [] (.iptr (dV m_1) 3) rfl (ak rfl rfl rfl) ?_
 refine dq [] [] (.isl false (m_1.f_s.Facts.map str)) rfl (aL rfl rfl) ?_
 refine dk 1 [12] [.iptr (dV m_1) 0] ?_
 refine dq [] [] (.iptr (dV m_1) 0) rfl (BH rfl rfl) ?_
 refine dq [] [] (.iptr (dV m_1) 2) rfl (ak rfl rfl rfl) ?_
 refine dq [] [] (.iptr (dV m_1) 2) rfl (ak rfl rfl rfl) ?_
 refine dq [] [] (I m_1.f_s.Day) rfl (aL rfl rfl) ?_
 obtain⟨r3,hr3,h⟩:=bS h
 refine dq [] [] (B r3) rfl (cP (Ug hr3)) ?_ (ct rfl rfl rfl rfl (bh (bE rfl) (bh (bE rfl) (bh (bE rfl) cz))) (Ug hr3) (.inr rfl) rfl)
 refine dk 1 [4] [B r3] ?_
 refine de 257 rfl rfl ?_
 obtain rfl:=Option.some.inj h
 exact ai rfl (qp [B r3])
theorem Ub {G:Go.Ln.Ground}:aH Tryz.prog G 88 Eu:=gT 2 0 (aB TJ bc) (Checked.mixed Tryz.checked) Tryz.func88 (fun a r h=>Vj a.1 a.2 r h)
def GL:(Contract×State×Int)→List V:=cA aG (cA bI (oA I))
def G2 (r:Bool×Bool):V×List V:=(.tup [B r.1,B r.2],[])
noncomputable def EY:Ent:=aO [false,false,false] GL G2 fun x=>Jd x.1 x.2.1 x.2.2
theorem Zt {c_1:Contract}{s_2:State}{i_3:Int}{r}(h:Jd c_1 s_2 i_3=some r):EY.F (GL (c_1,s_2,i_3))=some (G2 r):=aA (aU aQ (aU cD (az bA))) h
noncomputable def MX:Code:=ay Tryz.f36
noncomputable def LA:Env:=bG Tryz.prog [(20,Fh),(87,EO),(88,Eu),(86,gm)]
def GG (x:Contract×State×Int)(r:Bool×Bool):St→Prop:=QF LA Tryz.f36 [false,false,false] (GL x) (G2 r)
theorem UR (c_1:Contract)(s_2:State)(i_3:Int)(r:Bool×Bool)(h:Jd c_1 s_2 i_3=some r):ba LA Tryz.f36 [false,false,false] 0 (GL (c_1,s_2,i_3)) (G2 r):=by
 show Run _ _ (GG (c_1,s_2,i_3) r) [.code MX] _
 refine rI 30 [(0,.agg [.isl false (c_1.Parties.map str),.isl false (c_1.Clauses.map ac)]),(1,.agg [I s_2.Day,.isl false (s_2.Facts.map str),.isl false (s_2.Duties.map ae),.isl false (s_2.Balances.map I),B s_2.Over]),(2,I i_3)] [] 1 ?_
 unfold Jd at h
 refine ck 12 [3,4,8,9] [] [1,17] [] [.hp 1 0 [] 2 0 0,.hp 17 0 [] 5 0 0,.agg [.isl false (c_1.Parties.map str),.isl false (c_1.Clauses.map ac)],.agg [I s_2.Day,.isl false (s_2.Facts.map str),.isl false (s_2.Duties.map ae),.isl false (s_2.Balances.map I),B s_2.Over]] [some ⟨0,2,[.agg [.isl false (c_1.Parties.map str),.isl false (c_1.Clauses.map ac)]]⟩,some ⟨0,5,[.agg [I s_2.Day,.isl false (s_2.Facts.map str),.isl false (s_2.Duties.map ae),.isl false (s_2.Balances.map I),B s_2.Over]]⟩] 97 (by kernel_rfl) ?_
 obtain⟨r4,hr4,h⟩:=bS h
 refine oq 113 (B r4) rfl (cP (Zd hr4)) ?_
 refine cq 2 [12] [B (!r4)] 145 ?_
 obtain⟨y5,hy5,hy51,hy52⟩:=bJ h
 have j5:∀u5,y5=.inr u5→Run LA 0 (GG (c_1,s_2,i_3) r) (.code (cR (cL (cR MX)))::.code (cR (cR MX))::[]) (sT 30 [(2,I i_3),(3,.hp 1 0 [] 2 0 0),(4,.hp 2 0 [] 5 0 0),(20,B u5)] [⟨0,2,[.agg [.isl false (c_1.Parties.map str),.isl false (c_1.Clauses.map ac)]]⟩,⟨0,5,[.agg [I s_2.Day,.isl false (s_2.Facts.map str),.isl false (s_2.Duties.map ae),.isl false (s_2.Balances.map I),B s_2.Over]]⟩] 3):=by
  intro u5 hu
  replace h:=hy52 u5 hu
  refine sq h (fun h=>?_) fun h=>?_
  ·refine cq 5 [6,7] [B false,B false] 35 ?_
   obtain rfl:=Option.some.inj h
   exact ai rfl (qp [B false,B false])
  ·refine aq 1 ?_
   refine aq 1 ?_
   refine dN [0,0,3,0,8,0,56,120,255,511,1023] rfl (by decide +kernel) ?_
   refine dq [1] [] (.agg [.isl false (c_1.Parties.map str),.isl false (c_1.Clauses.map ac)]) rfl (aL rfl rfl) ?_
   refine dq [2] [] (.agg [I s_2.Day,.isl false (s_2.Facts.map str),.isl false (s_2.Duties.map ae),.isl false (s_2.Balances.map I),B s_2.Over]) rfl (aL rfl rfl) ?_
   obtain⟨r6,hr6,h⟩:=bS h
   refine dq [] [] (.hp 35 0 [] 10 0 0) rfl (cP (Ui hr6)) ?_ (ct rfl rfl rfl rfl (bh (bE rfl) (bh (bE rfl) cz)) (Ui hr6) (.inr rfl) rfl)
   refine dq [1] [] (.hp 1 0 [] 2 0 1) rfl (ak rfl rfl rfl) ?_
   refine dq [1] [] (.isl false (c_1.Clauses.map ac)) rfl (aL rfl rfl) ?_
   refine dk 1 [26] [I i_3] ?_
   obtain⟨e7,he7,h⟩:=bS h
   refine dq [] [] (.iptr (.agg [str e7.Id,I e7.Kind,I e7.Party,str e7.Action,I e7.Other,I e7.Amount,I e7.When.Op,str e7.When.Name,I e7.When.Day,.isl false (e7.When.Parts.map aa),I e7.Within,str e7.Repair]) 0) rfl (al rfl rfl rfl (aM rfl rfl rfl rfl he7)) ?_
   refine dq [] [] (.agg [str e7.Id,I e7.Kind,I e7.Party,str e7.Action,I e7.Other,I e7.Amount,I e7.When.Op,str e7.When.Name,I e7.When.Day,.isl false (e7.When.Parts.map aa),I e7.Within,str e7.Repair]) rfl (aL rfl rfl) ?_
   obtain⟨r8,hr8,h⟩:=bS h
   refine dq [35] [] (B r8) rfl (bT rfl rfl (ci rfl rfl rfl (bh (Uj rfl rfl (pj (path:=[]) rfl rfl aN rfl (LJ (cY rfl (cY rfl (cY rfl (cY (kE (bz dZ)) (cY (kE (bz eY)) (cY (kE (bz oz)) (cY rfl (cY (kE (bz dZ)) (cY (kE (bz tg)) (cY rfl rfl))))))))))))) (bh (bE rfl) cz)) (Uv hr8) (.inl rfl) dA rfl rfl rfl)) ?_ (ct rfl rfl rfl rfl (bh (Uj rfl rfl (pj (path:=[]) rfl rfl aN rfl (LJ (cY rfl (cY rfl (cY rfl (cY (kE (bz dZ)) (cY (kE (bz eY)) (cY (kE (bz oz)) (cY rfl (cY (kE (bz dZ)) (cY (kE (bz tg)) (cY rfl rfl))))))))))))) (bh (bE rfl) cz)) (by exact Uv hr8) (by exact .inl rfl) rfl)
   refine dk 2 [7,6] [B true,B r8] ?_
   refine de 179 rfl rfl ?_
   obtain rfl:=Option.some.inj h
   exact ai rfl (qp [B r8,B true])
 have r5:∀r',y5=.inl r'→∀st,GG (c_1,s_2,i_3) r' st→(GG (c_1,s_2,i_3) r) st:=fun r' e st hq=>by rw[hy51 r' e] at hq;exact hq
 replace h:=hy5
 refine sp 12 h rfl (fun h=>?_) fun h=>?_
 ·refine cq 9 [20] [B true] 273 ?_
  exact rf [2,3,4,20] [1,17] (j5 _ (Option.some.inj h).symm :)
 ·refine cq 3 [13,15] [I i_3,.isl false (c_1.Clauses.map ac)] 193 ?_
  refine oy 209 (I (len c_1.Clauses)) rfl (aZ rfl rfl rfl (bg rfl)) ?_
  refine cq 1 [17] [I (ar ((len c_1.Clauses) - 1))] 225 ?_
  obtain⟨r9,hr9,h⟩:=bS h
  refine oy 241 (B r9) rfl (cP (gb hr9)) ?_
  refine cq 3 [20] [B (!r9)] 273 ?_
  exact rf [2,3,4,20] [1,17] (j5 _ (Option.some.inj h).symm :)
theorem Sm {G:Go.Ln.Ground}:aH Tryz.prog G 36 EY:=gT 3 0 (aB S3 (aB SO (aB Ub (aB gx bc)))) (Checked.mixed Tryz.checked) Tryz.func36 (fun a r h=>UR a.1 a.2.1 a.2.2 r h)
def AZ:((List ah)×(List ah))→List V:=cA (eu str) (oA (eu str))
def C1 (r:Bool):V×List V:=(B r,[])
noncomputable def sG:Ent:=aO [false,false] AZ C1 fun x=>uO x.1 x.2
theorem PJ {a_1:List ah}{b_2:List ah}{r}(h:uO a_1 b_2=some r):sG.F (AZ (a_1,b_2))=some (C1 r):=aA (aU (bi bf) (az (bi bf))) h
noncomputable def Oj:Code:=ay Tryz.f67
noncomputable def Ja:Env:=bG Tryz.prog []
def M0 (x:(List ah)×(List ah))(r:Bool):St→Prop:=QF Ja Tryz.f67 [false,false] (AZ x) (C1 r)
theorem JU (a_1:List ah)(b_2:List ah):cl Ja 0 (M0 (a_1,b_2)) (cL (cL (cR (cL (cR (cR Oj)))))) 0 (ro a_1 b_2) (fun u=>(sT 26 [] [] 1)) fun x3=>(sT 26 [(0,.isl false (a_1.map str)),(1,.isl false (b_2.map str)),(5,I x3)] [] 1):=d5 (wG a_1 b_2) fun {Q K} hK self ih x3 y h hr hn=>by
 unfold lh at h
 refine cq 5 [11,12] [I x3,.isl false (a_1.map str)] 33 ?_
 refine oq 49 (I (len a_1)) rfl (aZ rfl rfl rfl (bg rfl)) ?_
 refine cq 2 [14] [B (decide (x3<(len a_1)))] 65 ?_
 refine sq h (fun h=>?_) fun h=>?_
 ·refine aq 1 ?_
  refine aq 3 ?_
  refine dN [0,0,3,7,0,0,48,112,255] rfl (by decide +kernel) ?_
  refine dk 2 [18,17] [I x3,.isl false (a_1.map str)] ?_
  obtain⟨e4,he4,h⟩:=bS h
  refine dq [] [] (.iptr (str e4) 0) rfl (al rfl rfl rfl (aM rfl rfl rfl rfl he4)) ?_
  refine dq [] [] (str e4) rfl (aL rfl rfl) ?_
  refine dk 2 [22,21] [I x3,.isl false (b_2.map str)] ?_
  obtain⟨e5,he5,h⟩:=bS h
  refine dq [] [] (.iptr (str e5) 0) rfl (al rfl rfl rfl (aM rfl rfl rfl rfl he5)) ?_
  refine dq [] [] (str e5) rfl (aL rfl rfl) ?_
  refine dk 1 [25] [B (!(e4==e5))] ?_
  refine de 209 rfl rfl ?_
  refine sq h (fun h=>?_) fun h=>?_
  ·refine cq 4 [4] [B false] 225 ?_
   exact ai rfl (hr _ (Option.some.inj h).symm _ (qp [B false]))
  ·refine aq 1 ?_
   refine cq 6 [5] [I (ar (x3+1))] 257 ?_
   refine cS ?_
   exact rf [0,1,5] [] (ih _ _ h hr hn :)
 ·refine aq 1 ?_
  exact rf [] [] (hn _ (Option.some.inj h).symm :) (hk:=hK)
theorem Tg (a_1:List ah)(b_2:List ah)(r:Bool)(h:uO a_1 b_2=some r):ba Ja Tryz.f67 [false,false] 0 (AZ (a_1,b_2)) (C1 r):=by
 show Run _ _ (M0 (a_1,b_2) r) [.code Oj] _
 refine rI 26 [(0,.isl false (a_1.map str)),(1,.isl false (b_2.map str))] [] 1 ?_
 unfold uO at h
 refine cq 8 [6] [.isl false (a_1.map str)] 33 ?_
 refine oq 49 (I (len a_1)) rfl (aZ rfl rfl rfl (bg rfl)) ?_
 refine cq 1 [8] [.isl false (b_2.map str)] 65 ?_
 refine oq 81 (I (len b_2)) rfl (aZ rfl rfl rfl (bg rfl)) ?_
 refine cq 2 [10] [B ((len a_1) != (len b_2))] 97 ?_
 refine sq h (fun h=>?_) fun h=>?_
 ·refine cq 4 [4] [B false] 113 ?_
  obtain rfl:=Option.some.inj h
  exact ai rfl (qp [B false])
 ·refine aq 1 ?_
  refine cq 6 [5] [I (0)] 113 ?_
  obtain⟨y6,hy6,hy61,hy62⟩:=bJ h
  refine bW rfl ?_
  refine rf [0,1,5] [] (JU a_1 b_2 rfl 0 _ hy6 (fun r' e st hq=>by rw[hy61 r' e] at hq;exact hq) fun u6 hu=>?_)
  replace h:=hy62 u6 hu
  refine cq 4 [4] [B true] 17 ?_
  obtain rfl:=Option.some.inj h
  exact ai rfl (qp [B true])
theorem FQ {G:Go.Ln.Ground}:aH Tryz.prog G 67 sG:=gT 2 0 bc (Checked.mixed Tryz.checked) Tryz.func67 (fun a r h=>Tg a.1 a.2 r h)
def uH:(Condition×Condition)→List V:=cA aP (oA aP)
def uc (r:Bool):V×List V:=(B r,[])
noncomputable def pQ (slf_Ffbh:(Condition×Condition)→Option Bool):Ent:=aO [false,false] uH uc slf_Ffbh
theorem ES (slf_Ffbh:(Condition×Condition)→Option Bool){x}{r}(h:slf_Ffbh x=some r):(pQ slf_Ffbh).F (uH x)=some (uc r):=aA (aU cb (az cb)) h
def BA:((List Condition)×(List Condition))→List V:=cA (eu aa) (oA (eu aa))
def Ds (r:Bool):V×List V:=(B r,[])
noncomputable def xE (slf_Ffbh:(Condition×Condition)→Option Bool):Ent:=aO [false,false] BA Ds fun x=>tF slf_Ffbh x.1 x.2
theorem Xt (slf_Ffbh:(Condition×Condition)→Option Bool){a_1:List Condition}{b_2:List Condition}{r}(h:tF slf_Ffbh a_1 b_2=some r):(xE slf_Ffbh).F (BA (a_1,b_2))=some (Ds r):=aA (aU (bi ee) (az (bi ee))) h
noncomputable def NQ:Code:=ay Tryz.f223
noncomputable def IQ (slf_Ffbh:(Condition×Condition)→Option Bool):Env:=bG Tryz.prog [(193,(pQ slf_Ffbh))]
def Nj (slf_Ffbh:(Condition×Condition)→Option Bool)(x:(List Condition)×(List Condition))(r:Bool):St→Prop:=QF (IQ slf_Ffbh) Tryz.f223 [false,false] (BA x) (Ds r)
theorem Kc (slf_Ffbh:(Condition×Condition)→Option Bool)(a_1:List Condition)(b_2:List Condition):cl (IQ slf_Ffbh) 0 (Nj slf_Ffbh (a_1,b_2)) (cL (cL (cR (cL (cR (cR NQ)))))) 0 (oJ slf_Ffbh a_1 b_2) (fun u=>(sT 27 [] [] 1)) fun x3=>(sT 27 [(0,.isl false (a_1.map aa)),(1,.isl false (b_2.map aa)),(5,I x3)] [] 1):=d5 (wi slf_Ffbh a_1 b_2) fun {Q K} hK self ih x3 y h hr hn=>by
 unfold jU at h
 refine cq 5 [11,12] [I x3,.isl false (a_1.map aa)] 33 ?_
 refine oq 49 (I (len a_1)) rfl (aZ rfl rfl rfl (bg rfl)) ?_
 refine cq 2 [14] [B (decide (x3<(len a_1)))] 65 ?_
 refine sq h (fun h=>?_) fun h=>?_
 ·refine aq 1 ?_
  refine aq 3 ?_
  refine dN [0,0,3,7,0,0,48,112,255,511] rfl (by decide +kernel) ?_
  refine dk 2 [18,17] [I x3,.isl false (a_1.map aa)] ?_
  obtain⟨e4,he4,h⟩:=bS h
  refine dq [] [] (.iptr (.agg [I e4.Op,str e4.Name,I e4.Day,.isl false (e4.Parts.map aa)]) 0) rfl (al rfl rfl rfl (aM rfl rfl (bb e4) rfl he4)) ?_
  refine dq [] [] (.agg [I e4.Op,str e4.Name,I e4.Day,.isl false (e4.Parts.map aa)]) rfl (aL rfl rfl) ?_
  refine dk 2 [22,21] [I x3,.isl false (b_2.map aa)] ?_
  obtain⟨e5,he5,h⟩:=bS h
  refine dq [] [] (.iptr (.agg [I e5.Op,str e5.Name,I e5.Day,.isl false (e5.Parts.map aa)]) 0) rfl (al rfl rfl rfl (aM rfl rfl (bb e5) rfl he5)) ?_
  refine dq [] [] (.agg [I e5.Op,str e5.Name,I e5.Day,.isl false (e5.Parts.map aa)]) rfl (aL rfl rfl) ?_
  obtain⟨r6,hr6,h⟩:=bS h
  refine dq [] [] (B r6) rfl (bT rfl rfl (ci rfl rfl rfl (bh (bE rfl) (bh (bE rfl) cz)) (ES slf_Ffbh hr6) (.inr rfl) dA rfl rfl rfl)) ?_ (ct rfl rfl rfl rfl (bh (bE rfl) (bh (bE rfl) cz)) (ES slf_Ffbh hr6) (.inr rfl) rfl)
  refine dk 1 [26] [B (!r6)] ?_
  refine de 225 rfl rfl ?_
  refine sq h (fun h=>?_) fun h=>?_
  ·refine cq 4 [4] [B false] 241 ?_
   exact ai rfl (hr _ (Option.some.inj h).symm _ (qp [B false]))
  ·refine aq 1 ?_
   refine cq 6 [5] [I (ar (x3+1))] 273 ?_
   refine cS ?_
   exact rf [0,1,5] [] (ih _ _ h hr hn :)
 ·refine aq 1 ?_
  exact rf [] [] (hn _ (Option.some.inj h).symm :) (hk:=hK)
theorem RZ (slf_Ffbh:(Condition×Condition)→Option Bool)(a_1:List Condition)(b_2:List Condition)(r:Bool)(h:tF slf_Ffbh a_1 b_2=some r):ba (IQ slf_Ffbh) Tryz.f223 [false,false] 0 (BA (a_1,b_2)) (Ds r):=by
 show Run _ _ (Nj slf_Ffbh (a_1,b_2) r) [.code NQ] _
 refine rI 27 [(0,.isl false (a_1.map aa)),(1,.isl false (b_2.map aa))] [] 1 ?_
 unfold tF at h
 refine cq 8 [6] [.isl false (a_1.map aa)] 33 ?_
 refine oq 49 (I (len a_1)) rfl (aZ rfl rfl rfl (bg rfl)) ?_
 refine cq 1 [8] [.isl false (b_2.map aa)] 65 ?_
 refine oq 81 (I (len b_2)) rfl (aZ rfl rfl rfl (bg rfl)) ?_
 refine cq 2 [10] [B ((len a_1) != (len b_2))] 97 ?_
 refine sq h (fun h=>?_) fun h=>?_
 ·refine cq 4 [4] [B false] 113 ?_
  obtain rfl:=Option.some.inj h
  exact ai rfl (qp [B false])
 ·refine aq 1 ?_
  refine cq 6 [5] [I (0)] 113 ?_
  obtain⟨y7,hy7,hy71,hy72⟩:=bJ h
  refine bW rfl ?_
  refine rf [0,1,5] [] (Kc slf_Ffbh a_1 b_2 rfl 0 _ hy7 (fun r' e st hq=>by rw[hy71 r' e] at hq;exact hq) fun u7 hu=>?_)
  replace h:=hy72 u7 hu
  refine cq 4 [4] [B true] 17 ?_
  obtain rfl:=Option.some.inj h
  exact ai rfl (qp [B true])
theorem QH {G:Go.Ln.Ground}(slf_Ffbh:(Condition×Condition)→Option Bool)(g_Ffbh:aH Tryz.prog G 193 (pQ slf_Ffbh)):aH Tryz.prog G 223 (xE slf_Ffbh):=gT 2 0 (aB g_Ffbh bc) (Checked.mixed Tryz.checked) Tryz.func223 (fun a r h=>RZ slf_Ffbh a.1 a.2 r h)
noncomputable def xt:Ent:=pQ (aE no)
theorem WY {a_1:Condition}{b_2:Condition}{r}(h:xN a_1 b_2=some r):xt.F (uH (a_1,b_2))=some (uc r):=ES (aE no) h
noncomputable def X0:Code:=ay Tryz.f193
noncomputable def P4 (slf_Ffbh:(Condition×Condition)→Option Bool):Env:=bG Tryz.prog [(223,(xE slf_Ffbh))]
def X1 (slf_Ffbh:(Condition×Condition)→Option Bool)(x:Condition×Condition)(r:Bool):St→Prop:=QF (P4 slf_Ffbh) Tryz.f193 [false,false] (uH x) (uc r)
theorem SP (slf_Ffbh:(Condition×Condition)→Option Bool)(a_1:Condition)(b_2:Condition)(r:Bool)(h:rl slf_Ffbh a_1 b_2=some r):ba (P4 slf_Ffbh) Tryz.f193 [false,false] 0 (uH (a_1,b_2)) (uc r):=by
 show Run _ _ (X1 slf_Ffbh (a_1,b_2) r) [.code X0] _
 refine rI 26 [(0,.agg [I a_1.Op,str a_1.Name,I a_1.Day,.isl false (a_1.Parts.map aa)]),(1,.agg [I b_2.Op,str b_2.Name,I b_2.Day,.isl false (b_2.Parts.map aa)])] [] 1 ?_
 unfold rl at h
 refine ck 15 [2,3,9] [] [1,17] [] [.hp 1 0 [] 4 0 0,.hp 17 0 [] 4 0 0,B (a_1.Op != b_2.Op)] [some ⟨0,4,[.agg [I a_1.Op,str a_1.Name,I a_1.Day,.isl false (a_1.Parts.map aa)]]⟩,some ⟨0,4,[.agg [I b_2.Op,str b_2.Name,I b_2.Day,.isl false (b_2.Parts.map aa)]]⟩] 129 (by kernel_rfl) ?_
 refine sq h (fun h=>?_) fun h=>?_
 ·refine cq 4 [4] [B false] 145 ?_
  obtain rfl:=Option.some.inj h
  exact ai rfl (qp [B false])
 ·refine aq 1 ?_
  refine cq 9 [14] [B (!(a_1.Name==b_2.Name))] 209 ?_
  refine sq h (fun h=>?_) fun h=>?_
  ·refine cq 4 [4] [B false] 225 ?_
   obtain rfl:=Option.some.inj h
   exact ai rfl (qp [B false])
  ·refine aq 1 ?_
   refine cq 9 [19] [B (a_1.Day != b_2.Day)] 289 ?_
   refine sq h (fun h=>?_) fun h=>?_
   ·refine cq 4 [4] [B false] 305 ?_
    obtain rfl:=Option.some.inj h
    exact ai rfl (qp [B false])
   ·refine aq 1 ?_
    refine cq 7 [21,23] [.isl false (a_1.Parts.map aa),.isl false (b_2.Parts.map aa)] 353 ?_
    obtain⟨r3,hr3,h⟩:=bS h
    refine oq 369 (B r3) rfl (bT rfl rfl (ci rfl rfl rfl (bh (bE rfl) (bh (bE rfl) cz)) (Xt slf_Ffbh hr3) (.inr rfl) dA rfl rfl rfl)) ?_
    refine cq 2 [25] [B (!r3)] 385 ?_
    refine sq h (fun h=>?_) fun h=>?_
    ·refine cq 4 [4] [B false] 401 ?_
     obtain rfl:=Option.some.inj h
     exact ai rfl (qp [B false])
    ·refine aq 1 ?_
     refine cq 4 [4] [B true] 401 ?_
     obtain rfl:=Option.some.inj h
     exact ai rfl (qp [B true])
theorem Ok {G:Go.Ln.Ground}:aH Tryz.prog G 193 xt:=gK fun slf_Ffbh g_Ffbh=>gT 2 0 (aB (QH slf_Ffbh g_Ffbh) bc) (Checked.mixed Tryz.checked) Tryz.func193 (fun a r h=>SP slf_Ffbh a.1 a.2 r h)
def Ef:(Clause×Clause)→List V:=cA ac (oA ac)
def zY (r:Bool):V×List V:=(B r,[])
noncomputable def zd:Ent:=aO [false,false] Ef zY fun x=>vd x.1 x.2
theorem QR {a_1:Clause}{b_2:Clause}{r}(h:vd a_1 b_2=some r):zd.F (Ef (a_1,b_2))=some (zY r):=aA (aU cm (az cm)) h
noncomputable def Yu:Code:=ay Tryz.f136
noncomputable def P1:Env:=bG Tryz.prog [(193,xt)]
def X2 (x:Clause×Clause)(r:Bool):St→Prop:=QF P1 Tryz.f136 [false,false] (Ef x) (zY r)
theorem RQ (a_1:Clause)(b_2:Clause)(r:Bool)(h:vd a_1 b_2=some r):ba P1 Tryz.f136 [false,false] 0 (Ef (a_1,b_2)) (zY r):=by
 show Run _ _ (X2 (a_1,b_2) r) [.code Yu] _
 refine rI 51 [(0,.agg [str a_1.Id,I a_1.Kind,I a_1.Party,str a_1.Action,I a_1.Other,I a_1.Amount,I a_1.When.Op,str a_1.When.Name,I a_1.When.Day,.isl false (a_1.When.Parts.map aa),I a_1.Within,str a_1.Repair]),(1,.agg [str b_2.Id,I b_2.Kind,I b_2.Party,str b_2.Action,I b_2.Other,I b_2.Amount,I b_2.When.Op,str b_2.When.Name,I b_2.When.Day,.isl false (b_2.When.Parts.map aa),I b_2.Within,str b_2.Repair])] [] 1 ?_
 unfold vd at h
 refine ck 15 [2,3,9] [] [1,17] [] [.hp 1 0 [] 12 0 0,.hp 17 0 [] 12 0 0,B (!(a_1.Id==b_2.Id))] [some ⟨0,12,[.agg [str a_1.Id,I a_1.Kind,I a_1.Party,str a_1.Action,I a_1.Other,I a_1.Amount,I a_1.When.Op,str a_1.When.Name,I a_1.When.Day,.isl false (a_1.When.Parts.map aa),I a_1.Within,str a_1.Repair]]⟩,some ⟨0,12,[.agg [str b_2.Id,I b_2.Kind,I b_2.Party,str b_2.Action,I b_2.Other,I b_2.Amount,I b_2.When.Op,str b_2.When.Name,I b_2.When.Day,.isl false (b_2.When.Parts.map aa),I b_2.Within,str b_2.Repair]]⟩] 129 (by kernel_rfl) ?_
 refine sq h (fun h=>?_) fun h=>?_
 ·refine cq 4 [4] [B false] 145 ?_
  obtain rfl:=Option.some.inj h
  exact ai rfl (qp [B false])
 ·refine aq 1 ?_
  refine cq 9 [14] [B (a_1.Kind != b_2.Kind)] 209 ?_
  refine sq h (fun h=>?_) fun h=>?_
  ·refine cq 4 [4] [B false] 225 ?_
   obtain rfl:=Option.some.inj h
   exact ai rfl (qp [B false])
  ·refine aq 1 ?_
   refine cq 9 [19] [B (a_1.Party != b_2.Party)] 289 ?_
   refine sq h (fun h=>?_) fun h=>?_
   ·refine cq 4 [4] [B false] 305 ?_
    obtain rfl:=Option.some.inj h
    exact ai rfl (qp [B false])
   ·refine aq 1 ?_
    refine cq 9 [24] [B (!(a_1.Action==b_2.Action))] 369 ?_
    refine sq h (fun h=>?_) fun h=>?_
    ·refine cq 4 [4] [B false] 385 ?_
     obtain rfl:=Option.some.inj h
     exact ai rfl (qp [B false])
    ·refine aq 1 ?_
     refine cq 9 [29] [B (a_1.Other != b_2.Other)] 449 ?_
     refine sq h (fun h=>?_) fun h=>?_
     ·refine cq 4 [4] [B false] 465 ?_
      obtain rfl:=Option.some.inj h
      exact ai rfl (qp [B false])
     ·refine aq 1 ?_
      refine cq 9 [34] [B (a_1.Amount != b_2.Amount)] 529 ?_
      refine sq h (fun h=>?_) fun h=>?_
      ·refine cq 4 [4] [B false] 545 ?_
       obtain rfl:=Option.some.inj h
       exact ai rfl (qp [B false])
      ·refine aq 1 ?_
       refine cq 7 [36,38] [.agg [I a_1.When.Op,str a_1.When.Name,I a_1.When.Day,.isl false (a_1.When.Parts.map aa)],.agg [I b_2.When.Op,str b_2.When.Name,I b_2.When.Day,.isl false (b_2.When.Parts.map aa)]] 593 ?_
       obtain⟨r3,hr3,h⟩:=bS h
       refine oq 609 (B r3) rfl (cP (WY hr3)) ?_
       refine cq 2 [40] [B (!r3)] 625 ?_
       refine sq h (fun h=>?_) fun h=>?_
       ·refine cq 4 [4] [B false] 641 ?_
        obtain rfl:=Option.some.inj h
        exact ai rfl (qp [B false])
       ·refine aq 1 ?_
        refine cq 9 [45] [B (a_1.Within != b_2.Within)] 705 ?_
        refine sq h (fun h=>?_) fun h=>?_
        ·refine cq 4 [4] [B false] 721 ?_
         obtain rfl:=Option.some.inj h
         exact ai rfl (qp [B false])
        ·refine aq 1 ?_
         refine cq 9 [50] [B (!(a_1.Repair==b_2.Repair))] 785 ?_
         refine sq h (fun h=>?_) fun h=>?_
         ·refine cq 4 [4] [B false] 801 ?_
          obtain rfl:=Option.some.inj h
          exact ai rfl (qp [B false])
         ·refine aq 1 ?_
          refine cq 4 [4] [B true] 801 ?_
          obtain rfl:=Option.some.inj h
          exact ai rfl (qp [B true])
theorem Q9 {G:Go.Ln.Ground}:aH Tryz.prog G 136 zd:=gT 2 0 (aB Ok bc) (Checked.mixed Tryz.checked) Tryz.func136 (fun a r h=>RQ a.1 a.2 r h)
def Dj:((List Clause)×(List Clause))→List V:=cA (eu ac) (oA (eu ac))
def DW (r:Bool):V×List V:=(B r,[])
noncomputable def yW:Ent:=aO [false,false] Dj DW fun x=>zz x.1 x.2
theorem W4 {a_1:List Clause}{b_2:List Clause}{r}(h:zz a_1 b_2=some r):yW.F (Dj (a_1,b_2))=some (DW r):=aA (aU (bi cm) (az (bi cm))) h
noncomputable def Ng:Code:=ay Tryz.f68
noncomputable def Iu:Env:=bG Tryz.prog [(136,zd)]
def PP (x:(List Clause)×(List Clause))(r:Bool):St→Prop:=QF Iu Tryz.f68 [false,false] (Dj x) (DW r)
theorem Kf (a_1:List Clause)(b_2:List Clause):cl Iu 0 (PP (a_1,b_2)) (cL (cL (cR (cL (cR (cR Ng)))))) 0 (qw a_1 b_2) (fun u=>(sT 27 [] [] 1)) fun x3=>(sT 27 [(0,.isl false (a_1.map ac)),(1,.isl false (b_2.map ac)),(5,I x3)] [] 1):=d5 (xa a_1 b_2) fun {Q K} hK self ih x3 y h hr hn=>by
 unfold lI at h
 refine cq 5 [11,12] [I x3,.isl false (a_1.map ac)] 33 ?_
 refine oq 49 (I (len a_1)) rfl (aZ rfl rfl rfl (bg rfl)) ?_
 refine cq 2 [14] [B (decide (x3<(len a_1)))] 65 ?_
 refine sq h (fun h=>?_) fun h=>?_
 ·refine aq 1 ?_
  refine aq 3 ?_
  refine dN [0,0,3,7,0,0,48,112,255,511] rfl (by decide +kernel) ?_
  refine dk 2 [18,17] [I x3,.isl false (a_1.map ac)] ?_
  obtain⟨e4,he4,h⟩:=bS h
  refine dq [] [] (.iptr (.agg [str e4.Id,I e4.Kind,I e4.Party,str e4.Action,I e4.Other,I e4.Amount,I e4.When.Op,str e4.When.Name,I e4.When.Day,.isl false (e4.When.Parts.map aa),I e4.Within,str e4.Repair]) 0) rfl (al rfl rfl rfl (aM rfl rfl rfl rfl he4)) ?_
  refine dq [] [] (.agg [str e4.Id,I e4.Kind,I e4.Party,str e4.Action,I e4.Other,I e4.Amount,I e4.When.Op,str e4.When.Name,I e4.When.Day,.isl false (e4.When.Parts.map aa),I e4.Within,str e4.Repair]) rfl (aL rfl rfl) ?_
  refine dk 2 [22,21] [I x3,.isl false (b_2.map ac)] ?_
  obtain⟨e5,he5,h⟩:=bS h
  refine dq [] [] (.iptr (.agg [str e5.Id,I e5.Kind,I e5.Party,str e5.Action,I e5.Other,I e5.Amount,I e5.When.Op,str e5.When.Name,I e5.When.Day,.isl false (e5.When.Parts.map aa),I e5.Within,str e5.Repair]) 0) rfl (al rfl rfl rfl (aM rfl rfl rfl rfl he5)) ?_
  refine dq [] [] (.agg [str e5.Id,I e5.Kind,I e5.Party,str e5.Action,I e5.Other,I e5.Amount,I e5.When.Op,str e5.When.Name,I e5.When.Day,.isl false (e5.When.Parts.map aa),I e5.Within,str e5.Repair]) rfl (aL rfl rfl) ?_
  obtain⟨r6,hr6,h⟩:=bS h
  refine dq [] [] (B r6) rfl (cP (QR hr6)) ?_ (ct rfl rfl rfl rfl (bh (bE rfl) (bh (bE rfl) cz)) (QR hr6) (.inr rfl) rfl)
  refine dk 1 [26] [B (!r6)] ?_
  refine de 225 rfl rfl ?_
  refine sq h (fun h=>?_) fun h=>?_
  ·refine cq 4 [4] [B false] 241 ?_
   exact ai rfl (hr _ (Option.some.inj h).symm _ (qp [B false]))
  ·refine aq 1 ?_
   refine cq 6 [5] [I (ar (x3+1))] 273 ?_
   refine cS ?_
   exact rf [0,1,5] [] (ih _ _ h hr hn :)
 ·refine aq 1 ?_
  exact rf [] [] (hn _ (Option.some.inj h).symm :) (hk:=hK)
theorem Sy (a_1:List Clause)(b_2:List Clause)(r:Bool)(h:zz a_1 b_2=some r):ba Iu Tryz.f68 [false,false] 0 (Dj (a_1,b_2)) (DW r):=by
 show Run _ _ (PP (a_1,b_2) r) [.code Ng] _
 refine rI 27 [(0,.isl false (a_1.map ac)),(1,.isl false (b_2.map ac))] [] 1 ?_
 unfold zz at h
 refine cq 8 [6] [.isl false (a_1.map ac)] 33 ?_
 refine oq 49 (I (len a_1)) rfl (aZ rfl rfl rfl (bg rfl)) ?_
 refine cq 1 [8] [.isl false (b_2.map ac)] 65 ?_
 refine oq 81 (I (len b_2)) rfl (aZ rfl rfl rfl (bg rfl)) ?_
 refine cq 2 [10] [B ((len a_1) != (len b_2))] 97 ?_
 refine sq h (fun h=>?_) fun h=>?_
 ·refine cq 4 [4] [B false] 113 ?_
  obtain rfl:=Option.some.inj h
  exact ai rfl (qp [B false])
 ·refine aq 1 ?_
  refine cq 6 [5] [I (0)] 113 ?_
  obtain⟨y7,hy7,hy71,hy72⟩:=bJ h
  refine bW rfl ?_
  refine rf [0,1,5] [] (Kf a_1 b_2 rfl 0 _ hy7 (fun r' e st hq=>by rw[hy71 r' e] at hq;exact hq) fun u7 hu=>?_)
  replace h:=hy72 u7 hu
  refine cq 4 [4] [B true] 17 ?_
  obtain rfl:=Option.some.inj h
  exact ai rfl (qp [B true])
theorem Pw {G:Go.Ln.Ground}:aH Tryz.prog G 68 yW:=gT 2 0 (aB Q9 bc) (Checked.mixed Tryz.checked) Tryz.func68 (fun a r h=>Sy a.1 a.2 r h)
def Bz:(Contract×Contract)→List V:=cA aG (oA aG)
def C5 (r:Bool):V×List V:=(B r,[])
noncomputable def ym:Ent:=aO [false,false] Bz C5 fun x=>zR x.1 x.2
theorem OO {a_1:Contract}{b_2:Contract}{r}(h:zR a_1 b_2=some r):ym.F (Bz (a_1,b_2))=some (C5 r):=aA (aU aQ (az aQ)) h
noncomputable def Xu:Code:=ay Tryz.f21
noncomputable def Q7:Env:=bG Tryz.prog [(67,sG),(68,yW)]
def XN (x:Contract×Contract)(r:Bool):St→Prop:=QF Q7 Tryz.f21 [false,false] (Bz x) (C5 r)
theorem Sp (a_1:Contract)(b_2:Contract)(r:Bool)(h:zR a_1 b_2=some r):ba Q7 Tryz.f21 [false,false] 0 (Bz (a_1,b_2)) (C5 r):=by
 show Run _ _ (XN (a_1,b_2) r) [.code Xu] _
 refine rI 17 [(0,.agg [.isl false (a_1.Parties.map str),.isl false (a_1.Clauses.map ac)]),(1,.agg [.isl false (b_2.Parties.map str),.isl false (b_2.Clauses.map ac)])] [] 1 ?_
 unfold zR at h
 refine ck 13 [2,3,6,8] [] [1,17] [] [.hp 1 0 [] 2 0 0,.hp 17 0 [] 2 0 0,.isl false (a_1.Parties.map str),.isl false (b_2.Parties.map str)] [some ⟨0,2,[.agg [.isl false (a_1.Parties.map str),.isl false (a_1.Clauses.map ac)]]⟩,some ⟨0,2,[.agg [.isl false (b_2.Parties.map str),.isl false (b_2.Clauses.map ac)]]⟩] 113 (by kernel_rfl) ?_
 obtain⟨r3,hr3,h⟩:=bS h
 refine oq 129 (B r3) rfl (cP (PJ hr3)) ?_
 refine cq 2 [10] [B (!r3)] 145 ?_
 refine sq h (fun h=>?_) fun h=>?_
 ·refine cq 4 [4] [B false] 161 ?_
  obtain rfl:=Option.some.inj h
  exact ai rfl (qp [B false])
 ·refine aq 1 ?_
  refine cq 7 [12,14] [.isl false (a_1.Clauses.map ac),.isl false (b_2.Clauses.map ac)] 209 ?_
  obtain⟨r4,hr4,h⟩:=bS h
  refine oq 225 (B r4) rfl (cP (W4 hr4)) ?_
  refine cq 2 [16] [B (!r4)] 241 ?_
  refine sq h (fun h=>?_) fun h=>?_
  ·refine cq 4 [4] [B false] 257 ?_
   obtain rfl:=Option.some.inj h
   exact ai rfl (qp [B false])
  ·refine aq 1 ?_
   refine cq 4 [4] [B true] 257 ?_
   obtain rfl:=Option.some.inj h
   exact ai rfl (qp [B true])
theorem Px {G:Go.Ln.Ground}:aH Tryz.prog G 21 ym:=gT 2 0 (aB FQ (aB Pw bc)) (Checked.mixed Tryz.checked) Tryz.func21 (fun a r h=>Sp a.1 a.2 r h)
def Ed:(Duty×Duty)→List V:=cA ae (oA ae)
def BI (r:Bool):V×List V:=(B r,[])
noncomputable def zF:Ent:=aO [false,false] Ed BI fun x=>vb x.1 x.2
theorem O2 {a_1:Duty}{b_2:Duty}{r}(h:vb a_1 b_2=some r):zF.F (Ed (a_1,b_2))=some (BI r):=aA (aU cO (az cO)) h
noncomputable def WF:Code:=ay Tryz.f137
noncomputable def Og:Env:=bG Tryz.prog []
def XT (x:Duty×Duty)(r:Bool):St→Prop:=QF Og Tryz.f137 [false,false] (Ed x) (BI r)
theorem RM (a_1:Duty)(b_2:Duty)(r:Bool)(h:vb a_1 b_2=some r):ba Og Tryz.f137 [false,false] 0 (Ed (a_1,b_2)) (BI r):=by
 show Run _ _ (XT (a_1,b_2) r) [.code WF] _
 refine rI 25 [(0,ae a_1),(1,ae b_2)] [] 1 ?_
 unfold vb at h
 refine ck 15 [2,3,9] [] [1,17] [] [.hp 1 0 [] 4 0 0,.hp 17 0 [] 4 0 0,B (a_1.Clause != b_2.Clause)] [some ⟨0,4,[ae a_1]⟩,some ⟨0,4,[ae b_2]⟩] 129 (by kernel_rfl) ?_
 refine sq h (fun h=>?_) fun h=>?_
 ·refine cq 4 [4] [B false] 145 ?_
  obtain rfl:=Option.some.inj h
  exact ai rfl (qp [B false])
 ·refine aq 1 ?_
  refine cq 9 [14] [B (a_1.Since != b_2.Since)] 209 ?_
  refine sq h (fun h=>?_) fun h=>?_
  ·refine cq 4 [4] [B false] 225 ?_
   obtain rfl:=Option.some.inj h
   exact ai rfl (qp [B false])
  ·refine aq 1 ?_
   refine cq 9 [19] [B (a_1.Due != b_2.Due)] 289 ?_
   refine sq h (fun h=>?_) fun h=>?_
   ·refine cq 4 [4] [B false] 305 ?_
    obtain rfl:=Option.some.inj h
    exact ai rfl (qp [B false])
   ·refine aq 1 ?_
    refine cq 9 [24] [B (a_1.Status != b_2.Status)] 369 ?_
    refine sq h (fun h=>?_) fun h=>?_
    ·refine cq 4 [4] [B false] 385 ?_
     obtain rfl:=Option.some.inj h
     exact ai rfl (qp [B false])
    ·refine aq 1 ?_
     refine cq 4 [4] [B true] 385 ?_
     obtain rfl:=Option.some.inj h
     exact ai rfl (qp [B true])
theorem MZ {G:Go.Ln.Ground}:aH Tryz.prog G 137 zF:=gT 2 0 bc (Checked.mixed Tryz.checked) Tryz.func137 (fun a r h=>RM a.1 a.2 r h)
def Cd:((List Duty)×(List Duty))→List V:=cA (eu ae) (oA (eu ae))
def D8 (r:Bool):V×List V:=(B r,[])
noncomputable def zC:Ent:=aO [false,false] Cd D8 fun x=>yp x.1 x.2
theorem Xx {a_1:List Duty}{b_2:List Duty}{r}(h:yp a_1 b_2=some r):zC.F (Cd (a_1,b_2))=some (D8 r):=aA (aU (bi cO) (az (bi cO))) h
noncomputable def Qd:Code:=ay Tryz.f69
noncomputable def IG:Env:=bG Tryz.prog [(137,zF)]
def O5 (x:(List Duty)×(List Duty))(r:Bool):St→Prop:=QF IG Tryz.f69 [false,false] (Cd x) (D8 r)
theorem Ko (a_1:List Duty)(b_2:List Duty):cl IG 0 (O5 (a_1,b_2)) (cL (cL (cR (cL (cR (cR Qd)))))) 0 (qX a_1 b_2) (fun u=>(sT 27 [] [] 1)) fun x3=>(sT 27 [(0,.isl false (a_1.map ae)),(1,.isl false (b_2.map ae)),(5,I x3)] [] 1):=d5 (wx a_1 b_2) fun {Q K} hK self ih x3 y h hr hn=>by
 unfold lM at h
 refine cq 5 [11,12] [I x3,.isl false (a_1.map ae)] 33 ?_
 refine oq 49 (I (len a_1)) rfl (aZ rfl rfl rfl (bg rfl)) ?_
 refine cq 2 [14] [B (decide (x3<(len a_1)))] 65 ?_
 refine sq h (fun h=>?_) fun h=>?_
 ·refine aq 1 ?_
  refine aq 3 ?_
  refine dN [0,0,3,7,0,0,48,112,255,511] rfl (by decide +kernel) ?_
  refine dk 2 [18,17] [I x3,.isl false (a_1.map ae)] ?_
  obtain⟨e4,he4,h⟩:=bS h
  refine dq [] [] (.iptr (ae e4) 0) rfl (al rfl rfl rfl (aM rfl rfl rfl rfl he4)) ?_
  refine dq [] [] (ae e4) rfl (aL rfl rfl) ?_
  refine dk 2 [22,21] [I x3,.isl false (b_2.map ae)] ?_
  obtain⟨e5,he5,h⟩:=bS h
  refine dq [] [] (.iptr (ae e5) 0) rfl (al rfl rfl rfl (aM rfl rfl rfl rfl he5)) ?_
  refine dq [] [] (ae e5) rfl (aL rfl rfl) ?_
  obtain⟨r6,hr6,h⟩:=bS h
  refine dq [] [] (B r6) rfl (cP (O2 hr6)) ?_ (ct rfl rfl rfl rfl (bh (bE rfl) (bh (bE rfl) cz)) (O2 hr6) (.inr rfl) rfl)
  refine dk 1 [26] [B (!r6)] ?_
  refine de 225 rfl rfl ?_
  refine sq h (fun h=>?_) fun h=>?_
  ·refine cq 4 [4] [B false] 241 ?_
   exact ai rfl (hr _ (Option.some.inj h).symm _ (qp [B false]))
  ·refine aq 1 ?_
   refine cq 6 [5] [I (ar (x3+1))] 273 ?_
   refine cS ?_
   exact rf [0,1,5] [] (ih _ _ h hr hn :)
 ·refine aq 1 ?_
  exact rf [] [] (hn _ (Option.some.inj h).symm :) (hk:=hK)
theorem Ss (a_1:List Duty)(b_2:List Duty)(r:Bool)(h:yp a_1 b_2=some r):ba IG Tryz.f69 [false,false] 0 (Cd (a_1,b_2)) (D8 r):=by
 show Run _ _ (O5 (a_1,b_2) r) [.code Qd] _
 refine rI 27 [(0,.isl false (a_1.map ae)),(1,.isl false (b_2.map ae))] [] 1 ?_
 unfold yp at h
 refine cq 8 [6] [.isl false (a_1.map ae)] 33 ?_
 refine oq 49 (I (len a_1)) rfl (aZ rfl rfl rfl (bg rfl)) ?_
 refine cq 1 [8] [.isl false (b_2.map ae)] 65 ?_
 refine oq 81 (I (len b_2)) rfl (aZ rfl rfl rfl (bg rfl)) ?_
 refine cq 2 [10] [B ((len a_1) != (len b_2))] 97 ?_
 refine sq h (fun h=>?_) fun h=>?_
 ·refine cq 4 [4] [B false] 113 ?_
  obtain rfl:=Option.some.inj h
  exact ai rfl (qp [B false])
 ·refine aq 1 ?_
  refine cq 6 [5] [I (0)] 113 ?_
  obtain⟨y7,hy7,hy71,hy72⟩:=bJ h
  refine bW rfl ?_
  refine rf [0,1,5] [] (Ko a_1 b_2 rfl 0 _ hy7 (fun r' e st hq=>by rw[hy71 r' e] at hq;exact hq) fun u7 hu=>?_)
  replace h:=hy72 u7 hu
  refine cq 4 [4] [B true] 17 ?_
  obtain rfl:=Option.some.inj h
  exact ai rfl (qp [B true])
theorem PK {G:Go.Ln.Ground}:aH Tryz.prog G 69 zC:=gT 2 0 (aB MZ bc) (Checked.mixed Tryz.checked) Tryz.func69 (fun a r h=>Ss a.1 a.2 r h)
def DX:((List Int)×(List Int))→List V:=cA (eu I) (oA (eu I))
def DK (r:Bool):V×List V:=(B r,[])
noncomputable def yH:Ent:=aO [false,false] DX DK fun x=>xu x.1 x.2
theorem WH {a_1:List Int}{b_2:List Int}{r}(h:xu a_1 b_2=some r):yH.F (DX (a_1,b_2))=some (DK r):=aA (aU (bi bA) (az (bi bA))) h
noncomputable def O7:Code:=ay Tryz.f28
noncomputable def Js:Env:=bG Tryz.prog []
def NT (x:(List Int)×(List Int))(r:Bool):St→Prop:=QF Js Tryz.f28 [false,false] (DX x) (DK r)
theorem JV (a_1:List Int)(b_2:List Int):cl Js 0 (NT (a_1,b_2)) (cL (cL (cR (cL (cR (cR O7)))))) 0 (qO a_1 b_2) (fun u=>(sT 26 [] [] 1)) fun x3=>(sT 26 [(0,.isl false (a_1.map I)),(1,.isl false (b_2.map I)),(5,I x3)] [] 1):=d5 (xl a_1 b_2) fun {Q K} hK self ih x3 y h hr hn=>by
 unfold lw at h
 refine cq 5 [11,12] [I x3,.isl false (a_1.map I)] 33 ?_
 refine oq 49 (I (len a_1)) rfl (aZ rfl rfl rfl (bg rfl)) ?_
 refine cq 2 [14] [B (decide (x3<(len a_1)))] 65 ?_
 refine sq h (fun h=>?_) fun h=>?_
 ·refine aq 1 ?_
  refine aq 3 ?_
  refine dN [0,0,3,7,0,0,48,112,255] rfl (by decide +kernel) ?_
  refine dk 2 [18,17] [I x3,.isl false (a_1.map I)] ?_
  obtain⟨e4,he4,h⟩:=bS h
  refine dq [] [] (.iptr (I e4) 0) rfl (al rfl rfl rfl (aM rfl rfl rfl rfl he4)) ?_
  refine dq [] [] (I e4) rfl (aL rfl rfl) ?_
  refine dk 2 [22,21] [I x3,.isl false (b_2.map I)] ?_
  obtain⟨e5,he5,h⟩:=bS h
  refine dq [] [] (.iptr (I e5) 0) rfl (al rfl rfl rfl (aM rfl rfl rfl rfl he5)) ?_
  refine dq [] [] (I e5) rfl (aL rfl rfl) ?_
  refine dk 1 [25] [B (e4 != e5)] ?_
  refine de 209 rfl rfl ?_
  refine sq h (fun h=>?_) fun h=>?_
  ·refine cq 4 [4] [B false] 225 ?_
   exact ai rfl (hr _ (Option.some.inj h).symm _ (qp [B false]))
  ·refine aq 1 ?_
   refine cq 6 [5] [I (ar (x3+1))] 257 ?_
   refine cS ?_
   exact rf [0,1,5] [] (ih _ _ h hr hn :)
 ·refine aq 1 ?_
  exact rf [] [] (hn _ (Option.some.inj h).symm :) (hk:=hK)
theorem Rn (a_1:List Int)(b_2:List Int)(r:Bool)(h:xu a_1 b_2=some r):ba Js Tryz.f28 [false,false] 0 (DX (a_1,b_2)) (DK r):=by
 show Run _ _ (NT (a_1,b_2) r) [.code O7] _
 refine rI 26 [(0,.isl false (a_1.map I)),(1,.isl false (b_2.map I))] [] 1 ?_
 unfold xu at h
 refine cq 8 [6] [.isl false (a_1.map I)] 33 ?_
 refine oq 49 (I (len a_1)) rfl (aZ rfl rfl rfl (bg rfl)) ?_
 refine cq 1 [8] [.isl false (b_2.map I)] 65 ?_
 refine oq 81 (I (len b_2)) rfl (aZ rfl rfl rfl (bg rfl)) ?_
 refine cq 2 [10] [B ((len a_1) != (len b_2))] 97 ?_
 refine sq h (fun h=>?_) fun h=>?_
 ·refine cq 4 [4] [B false] 113 ?_
  obtain rfl:=Option.some.inj h
  exact ai rfl (qp [B false])
 ·refine aq 1 ?_
  refine cq 6 [5] [I (0)] 113 ?_
  obtain⟨y6,hy6,hy61,hy62⟩:=bJ h
  refine bW rfl ?_
  refine rf [0,1,5] [] (JV a_1 b_2 rfl 0 _ hy6 (fun r' e st hq=>by rw[hy61 r' e] at hq;exact hq) fun u6 hu=>?_)
  replace h:=hy62 u6 hu
  refine cq 4 [4] [B true] 17 ?_
  obtain rfl:=Option.some.inj h
  exact ai rfl (qp [B true])
theorem Ny {G:Go.Ln.Ground}:aH Tryz.prog G 28 yH:=gT 2 0 bc (Checked.mixed Tryz.checked) Tryz.func28 (fun a r h=>Rn a.1 a.2 r h)
def AB:(State×State)→List V:=cA bI (oA bI)
def Dw (r:Bool):V×List V:=(B r,[])
noncomputable def zo:Ent:=aO [false,false] AB Dw fun x=>yU x.1 x.2
theorem Nc {a_1:State}{b_2:State}{r}(h:yU a_1 b_2=some r):zo.F (AB (a_1,b_2))=some (Dw r):=aA (aU cD (az cD)) h
noncomputable def Yb:Code:=ay Tryz.f22
noncomputable def OU:Env:=bG Tryz.prog [(67,sG),(69,zC),(28,yH)]
def WP (x:State×State)(r:Bool):St→Prop:=QF OU Tryz.f22 [false,false] (AB x) (Dw r)
theorem SK (a_1:State)(b_2:State)(r:Bool)(h:yU a_1 b_2=some r):ba OU Tryz.f22 [false,false] 0 (AB (a_1,b_2)) (Dw r):=by
 show Run _ _ (WP (a_1,b_2) r) [.code Yb] _
 refine rI 33 [(0,.agg [I a_1.Day,.isl false (a_1.Facts.map str),.isl false (a_1.Duties.map ae),.isl false (a_1.Balances.map I),B a_1.Over]),(1,.agg [I b_2.Day,.isl false (b_2.Facts.map str),.isl false (b_2.Duties.map ae),.isl false (b_2.Balances.map I),B b_2.Over])] [] 1 ?_
 unfold yU at h
 refine ck 15 [2,3,9] [] [1,17] [] [.hp 1 0 [] 5 0 0,.hp 17 0 [] 5 0 0,B (a_1.Day != b_2.Day)] [some ⟨0,5,[.agg [I a_1.Day,.isl false (a_1.Facts.map str),.isl false (a_1.Duties.map ae),.isl false (a_1.Balances.map I),B a_1.Over]]⟩,some ⟨0,5,[.agg [I b_2.Day,.isl false (b_2.Facts.map str),.isl false (b_2.Duties.map ae),.isl false (b_2.Balances.map I),B b_2.Over]]⟩] 129 (by kernel_rfl) ?_
 refine sq h (fun h=>?_) fun h=>?_
 ·refine cq 4 [4] [B false] 145 ?_
  obtain rfl:=Option.some.inj h
  exact ai rfl (qp [B false])
 ·refine aq 1 ?_
  refine cq 7 [11,13] [.isl false (a_1.Facts.map str),.isl false (b_2.Facts.map str)] 193 ?_
  obtain⟨r3,hr3,h⟩:=bS h
  refine oq 209 (B r3) rfl (cP (PJ hr3)) ?_
  refine cq 2 [15] [B (!r3)] 225 ?_
  refine sq h (fun h=>?_) fun h=>?_
  ·refine cq 4 [4] [B false] 241 ?_
   obtain rfl:=Option.some.inj h
   exact ai rfl (qp [B false])
  ·refine aq 1 ?_
   refine cq 7 [17,19] [.isl false (a_1.Duties.map ae),.isl false (b_2.Duties.map ae)] 289 ?_
   obtain⟨r4,hr4,h⟩:=bS h
   refine oq 305 (B r4) rfl (cP (Xx hr4)) ?_
   refine cq 2 [21] [B (!r4)] 321 ?_
   refine sq h (fun h=>?_) fun h=>?_
   ·refine cq 4 [4] [B false] 337 ?_
    obtain rfl:=Option.some.inj h
    exact ai rfl (qp [B false])
   ·refine aq 1 ?_
    refine cq 7 [23,25] [.isl false (a_1.Balances.map I),.isl false (b_2.Balances.map I)] 385 ?_
    obtain⟨r5,hr5,h⟩:=bS h
    refine oq 401 (B r5) rfl (cP (WH hr5)) ?_
    refine cq 2 [27] [B (!r5)] 417 ?_
    refine sq h (fun h=>?_) fun h=>?_
    ·refine cq 4 [4] [B false] 433 ?_
     obtain rfl:=Option.some.inj h
     exact ai rfl (qp [B false])
    ·refine aq 1 ?_
     refine cq 9 [32] [B (!(a_1.Over==b_2.Over))] 497 ?_
     refine sq h (fun h=>?_) fun h=>?_
     ·refine cq 4 [4] [B false] 513 ?_
      obtain rfl:=Option.some.inj h
      exact ai rfl (qp [B false])
     ·refine aq 1 ?_
      refine cq 4 [4] [B true] 513 ?_
      obtain rfl:=Option.some.inj h
      exact ai rfl (qp [B true])
theorem Nt {G:Go.Ln.Ground}:aH Tryz.prog G 22 zo:=gT 2 0 (aB FQ (aB PK (aB Ny bc))) (Checked.mixed Tryz.checked) Tryz.func22 (fun a r h=>SK a.1 a.2 r h)
def fB:(Contract×State×Int)→List V:=cA aG (cA bI (oA I))
def fz (r:Bool):V×List V:=(B r,[])
noncomputable def gh:Ent:=aO [false,false,false] fB fz fun x=>ek x.1 x.2.1 x.2.2
theorem qt {aC_1:Contract}{aS_2:State}{aI_3:Int}{r}(h:ek aC_1 aS_2 aI_3=some r):gh.F (fB (aC_1,aS_2,aI_3))=some (fz r):=aA (aU aQ (aU cD (az bA))) h
noncomputable def fA:Code:=ay Tryz.f7
noncomputable def gN:Env:=bG Tryz.prog [(15,xp),(16,zf),(18,yJ),(19,zG),(35,yf),(36,EY),(21,ym),(22,zo)]
def kw (x:Contract×State×Int)(r:Bool):St→Prop:=QF gN Tryz.f7 [false,false,false] (fB x) (fz r)
theorem pd (aC_1:Contract)(aS_2:State)(aI_3:Int)(r:Bool)(h:ek aC_1 aS_2 aI_3=some r):ba gN Tryz.f7 [false,false,false] 0 (fB (aC_1,aS_2,aI_3)) (fz r):=by
 show Run _ _ (kw (aC_1,aS_2,aI_3) r) [.code fA] _
 refine rI 62 [(0,aG aC_1),(1,bI aS_2),(2,I aI_3)] [] 1 ?_
 unfold ek at h
 refine ck 14 [3,4,14,15] [] [1,17] [] [.hp 1 0 [] 2 0 0,.hp 17 0 [] 5 0 0,aG aC_1,I (1048576)] [some ⟨0,2,[aG aC_1]⟩,some ⟨0,5,[bI aS_2]⟩] 97 (by kernel_rfl) ?_
 obtain⟨r4,hr4,h⟩:=bS h
 refine oq 113 (I r4) rfl (cP (Wf hr4)) ?_
 refine cq 8 [7,18] [I r4,B (decide (r4<0))] 161 ?_
 refine sq h (fun h=>?_) fun h=>?_
 ·refine cq 4 [6] [B true] 177 ?_
  obtain rfl:=Option.some.inj h
  exact ai rfl (qp [B true])
 ·refine aq 1 ?_
  refine cq 4 [19,20] [bI aS_2,I r4] 193 ?_
  obtain⟨r5,hr5,h⟩:=bS h
  refine oq 209 (I r5) rfl (cP (WQ hr5)) ?_
  refine ck 8 [23] [7] [] [] [B (decide (r5<0))] [] 257 (by kernel_rfl) ?_
  refine sq h (fun h=>?_) fun h=>?_
  ·refine cq 4 [6] [B true] 273 ?_
   obtain rfl:=Option.some.inj h
   exact ai rfl (qp [B true])
  ·refine aq 1 ?_
   refine aq 1 ?_
   refine dN [0,1,0,7,0,31,63,127,127,255,1023] rfl (by decide +kernel) ?_
   refine dq [1] [] (aG aC_1) rfl (aL rfl rfl) ?_
   obtain⟨r6,hr6,h⟩:=bS h
   refine dq [] [] (.agg [.hs 273 0 [] 1 0 (r6.Parties.map str).length,.hs 274 0 [] 12 0 (r6.Clauses.map aI).length]) rfl (cP (vk hr6)) ?_ (ct rfl rfl rfl rfl (bh (bE rfl) cz) (vk hr6) (.inr rfl) rfl)
   refine dq [17] [] (bI aS_2) rfl (aL rfl rfl) ?_
   obtain⟨r7,hr7,h⟩:=bS h
   refine dq [] [] (.agg [I r7.Day,.hs 305 0 [] 1 0 (r7.Facts.map str).length,.hs 306 0 [] 4 0 (r7.Duties.map ae).length,.hs 307 0 [] 1 0 (r7.Balances.map I).length,B r7.Over]) rfl (cP (uw hr7)) ?_ (ct rfl rfl rfl rfl (bh (bE rfl) cz) (uw hr7) (.inr rfl) rfl)
   refine dk 1 [29] [I aI_3] ?_
   obtain⟨r8,hr8,h⟩:=bS h
   refine dq [273,274,305,306,307] [] (.tup [B r8.1,B r8.2]) rfl (bT rfl rfl (ci rfl rfl rfl (bh (oU (dx (ew (f:=str) (g:=str) (xs:=r6.Parties) rfl rfl (bz dZ)) (dx (ew (f:=aI) (g:=ac) (xs:=r6.Clauses) rfl rfl (bz eW)) kC))) (bh (oU (dx (hJ rfl) (dx (ew (f:=str) (g:=str) (xs:=r7.Facts) rfl rfl (bz dZ)) (dx (ew (f:=ae) (g:=ae) (xs:=r7.Duties) rfl rfl (bz eY)) (dx (ew (f:=I) (g:=I) (xs:=r7.Balances) rfl rfl (bz oz)) (dx (hJ rfl) kC)))))) (bh (bE rfl) cz))) (Ow hr8) (.inl rfl) dA rfl rfl rfl)) ?_ (ct rfl rfl rfl rfl (bh (oU (dx (ew (f:=str) (g:=str) (xs:=r6.Parties) rfl rfl (bz dZ)) (dx (ew (f:=aI) (g:=ac) (xs:=r6.Clauses) rfl rfl (bz eW)) kC))) (bh (oU (dx (hJ rfl) (dx (ew (f:=str) (g:=str) (xs:=r7.Facts) rfl rfl (bz dZ)) (dx (ew (f:=ae) (g:=ae) (xs:=r7.Duties) rfl rfl (bz eY)) (dx (ew (f:=I) (g:=I) (xs:=r7.Balances) rfl rfl (bz oz)) (dx (hJ rfl) kC)))))) (bh (bE rfl) cz))) (Ow hr8) (.inl rfl) rfl)
   refine dk 5 [9,8,32,31,24] [B r8.2,B r8.1,B r8.2,B r8.1,.tup [B r8.1,B r8.2]] ?_
   refine de 433 rfl rfl ?_
   refine cq 3 [33] [aG aC_1] 449 ?_
   obtain⟨r9,hr9,h⟩:=bS h
   refine oq 465 (.agg [.hs 449 0 [] 1 0 (r9.Parties.map str).length,.hs 450 0 [] 12 0 (r9.Clauses.map aI).length]) rfl (cP (vk hr9)) ?_
   refine ck 1 [10] [] [465] [] [.hp 465 0 [] 2 0 0] [some ⟨0,2,[.agg [.isl true [],.isl true []]]⟩] 481 (by kernel_rfl) ?_
   refine eb 465 [.agg [.usl 1 (([]).map str),.usl 12 (([]).map aI)]] rfl rfl (au (eU (au (.nil _) (au (.nil _) dm))) dm) ?_
   refine o0 497 rfl rfl (fD rfl rfl (eA (path:=[]) (pl:=false) (e':=.agg [.usl 1 (r9.Parties.map str),.usl 12 (r9.Clauses.map aI)]) (es2':=[.agg [.usl 1 (r9.Parties.map str),.usl 12 (r9.Clauses.map aI)]]) rfl (ku (bq (cf rfl rfl) (bq (cf rfl rfl) kv))) rfl rfl rfl aN rfl rfl rfl rfl rfl du 2 rfl)) ?_
   refine cq 4 [35] [bI aS_2] 513 ?_
   obtain⟨r10,hr10,h⟩:=bS h
   refine oq 529 (.agg [I r10.Day,.hs 513 0 [] 1 0 (r10.Facts.map str).length,.hs 514 0 [] 4 0 (r10.Duties.map ae).length,.hs 515 0 [] 1 0 (r10.Balances.map I).length,B r10.Over]) rfl (cP (uw hr10)) ?_
   refine ck 1 [11] [] [529] [] [.hp 529 0 [] 5 0 0] [some ⟨0,5,[.agg [I (0),.isl true [],.isl true [],.isl true [],B false]]⟩] 545 (by kernel_rfl) ?_
   refine eb 529 [.agg [I (0),.usl 1 (([]).map str),.usl 4 (([]).map ae),.usl 1 (([]).map I),B false]] rfl rfl (au (eU (au (.refl _) (au (.nil _) (au (.nil _) (au (.nil _) (au (.refl _) dm)))))) dm) ?_
   refine o0 561 rfl rfl (fD rfl rfl (eA (path:=[]) (pl:=false) (e':=.agg [I r10.Day,.usl 1 (r10.Facts.map str),.usl 4 (r10.Duties.map ae),.usl 1 (r10.Balances.map I),B r10.Over]) (es2':=[.agg [I r10.Day,.usl 1 (r10.Facts.map str),.usl 4 (r10.Duties.map ae),.usl 1 (r10.Balances.map I),B r10.Over]]) rfl (ku (bq (bQ rfl) (bq (cf rfl rfl) (bq (cf rfl rfl) (bq (cf rfl rfl) (bq (bQ rfl) kv)))))) rfl rfl rfl aN rfl rfl rfl rfl rfl du 2 rfl)) ?_
   refine cq 6 [38,39,40] [.agg [.hs 465 2 [(0,0)] 1 0 (r9.Parties.map str).length,.hs 465 2 [(0,1)] 12 0 (r9.Clauses.map aI).length],.agg [I r10.Day,.hs 529 2 [(0,1)] 1 0 (r10.Facts.map str).length,.hs 529 2 [(0,2)] 4 0 (r10.Duties.map ae).length,.hs 529 2 [(0,3)] 1 0 (r10.Balances.map I).length,B r10.Over],I aI_3] 609 ?_
   obtain⟨r11,hr11,h⟩:=bS h
   refine oq 625 (.tup [B r11.1,B r11.2]) rfl (bT rfl rfl (ci rfl rfl rfl (bh (oU (dx (iI (path:=[(0,0)]) rfl rfl (ec rfl rfl aN) rfl (bz (f:=str) dZ)) (dx (iI (path:=[(0,1)]) rfl rfl (ec rfl rfl aN) rfl (bz (f:=aI) eW)) kC))) (bh (oU (dx (hJ rfl) (dx (iI (path:=[(0,1)]) rfl rfl (ec rfl rfl aN) rfl (bz (f:=str) dZ)) (dx (iI (path:=[(0,2)]) rfl rfl (ec rfl rfl aN) rfl (bz (f:=ae) eY)) (dx (iI (path:=[(0,3)]) rfl rfl (ec rfl rfl aN) rfl (bz (f:=I) oz)) (dx (hJ rfl) kC)))))) (bh (bE rfl) cz))) (Zt hr11) (.inl rfl) dA rfl rfl rfl)) ?_
   refine cq 13 [13,47] [B r11.2,B (!(r11.1==r8.1))] 769 ?_
   obtain⟨u12,hu12,h⟩:=lJ h
   have j12:Run gN 0 (kw (aC_1,aS_2,aI_3) r) (.code (cR (cL (cR (cR (cR (cR (cR (cR (cR (cR (cR (cR fA))))))))))))::.code (cR (cR (cR (cR (cR (cR (cR (cR (cR (cR (cR fA)))))))))))::[]) (sT 62 [(3,.hp 1 0 [] 2 0 0),(4,.hp 2 0 [] 5 0 0),(10,.hp 3 0 [] 2 0 0),(11,.hp 4 0 [] 5 0 0),(51,B u12)] [⟨0,2,[aG aC_1]⟩,⟨0,5,[bI aS_2]⟩,⟨0,2,[.agg [.usl 1 (r9.Parties.map str),.usl 12 (r9.Clauses.map aI)]]⟩,⟨0,5,[.agg [I r10.Day,.usl 1 (r10.Facts.map str),.usl 4 (r10.Duties.map ae),.usl 1 (r10.Balances.map I),B r10.Over]]⟩] 5):=by
    refine sq h (fun h=>?_) fun h=>?_
    ·refine cq 4 [6] [B false] 21 ?_
     obtain rfl:=Option.some.inj h
     exact ai rfl (qp [B false])
    ·refine aq 1 ?_
     refine aq 2 ?_
     refine dN [0,0,2,7,15] rfl (by decide +kernel) ?_
     refine dq [3] [] (.agg [.hs 3 0 [(0,0)] 1 0 (r9.Parties.map str).length,.hs 3 0 [(0,1)] 12 0 (r9.Clauses.map aI).length]) rfl (aL rfl rfl) ?_
     refine dq [1] [] (aG aC_1) rfl (aL rfl rfl) ?_
     obtain⟨r13,hr13,h⟩:=bS h
     refine dq [] [] (.agg [.hs 37 0 [] 1 0 (r13.Parties.map str).length,.hs 38 0 [] 12 0 (r13.Clauses.map aI).length]) rfl (cP (vk hr13)) ?_ (ct rfl rfl rfl rfl (bh (bE rfl) cz) (vk hr13) (.inr rfl) rfl)
     obtain⟨r14,hr14,h⟩:=bS h
     refine dq [3,3,37,38] [] (B r14) rfl (bT rfl rfl (ci rfl rfl rfl (bh (oU (dx (iI (path:=[(0,0)]) rfl rfl (ec rfl rfl aN) rfl (bz (f:=str) dZ)) (dx (iI (path:=[(0,1)]) rfl rfl (ec rfl rfl aN) rfl (bz (f:=aI) eW)) kC))) (bh (oU (dx (ew (f:=str) (g:=str) (xs:=r13.Parties) rfl rfl (bz dZ)) (dx (ew (f:=aI) (g:=ac) (xs:=r13.Clauses) rfl rfl (bz eW)) kC))) cz)) (OO hr14) (.inl rfl) dA rfl rfl rfl)) ?_ (ct rfl rfl rfl rfl (bh (oU (dx (iI (path:=[(0,0)]) rfl rfl (ec rfl rfl aN) rfl (bz (f:=str) dZ)) (dx (iI (path:=[(0,1)]) rfl rfl (ec rfl rfl aN) rfl (bz (f:=aI) eW)) kC))) (bh (oU (dx (ew (f:=str) (g:=str) (xs:=r13.Parties) rfl rfl (bz dZ)) (dx (ew (f:=aI) (g:=ac) (xs:=r13.Clauses) rfl rfl (bz eW)) kC))) cz)) (OO hr14) (.inl rfl) rfl)
     refine dk 1 [56] [B (!r14)] ?_
     refine de 85 rfl rfl ?_
     refine sq h (fun h=>?_) fun h=>?_
     ·refine cq 4 [6] [B false] 101 ?_
      obtain rfl:=Option.some.inj h
      exact ai rfl (qp [B false])
     ·refine aq 1 ?_
      refine aq 2 ?_
      refine dN [0,0,2,7,15] rfl (by decide +kernel) ?_
      refine dq [4] [] (.agg [I r10.Day,.hs 4 0 [(0,1)] 1 0 (r10.Facts.map str).length,.hs 4 0 [(0,2)] 4 0 (r10.Duties.map ae).length,.hs 4 0 [(0,3)] 1 0 (r10.Balances.map I).length,B r10.Over]) rfl (aL rfl rfl) ?_
      refine dq [2] [] (bI aS_2) rfl (aL rfl rfl) ?_
      obtain⟨r15,hr15,h⟩:=bS h
      refine dq [] [] (.agg [I r15.Day,.hs 117 0 [] 1 0 (r15.Facts.map str).length,.hs 118 0 [] 4 0 (r15.Duties.map ae).length,.hs 119 0 [] 1 0 (r15.Balances.map I).length,B r15.Over]) rfl (cP (uw hr15)) ?_ (ct rfl rfl rfl rfl (bh (bE rfl) cz) (uw hr15) (.inr rfl) rfl)
      obtain⟨r16,hr16,h⟩:=bS h
      refine dq [4,4,4,117,118,119] [] (B r16) rfl (bT rfl rfl (ci rfl rfl rfl (bh (oU (dx (hJ rfl) (dx (iI (path:=[(0,1)]) rfl rfl (ec rfl rfl aN) rfl (bz (f:=str) dZ)) (dx (iI (path:=[(0,2)]) rfl rfl (ec rfl rfl aN) rfl (bz (f:=ae) eY)) (dx (iI (path:=[(0,3)]) rfl rfl (ec rfl rfl aN) rfl (bz (f:=I) oz)) (dx (hJ rfl) kC)))))) (bh (oU (dx (hJ rfl) (dx (ew (f:=str) (g:=str) (xs:=r15.Facts) rfl rfl (bz dZ)) (dx (ew (f:=ae) (g:=ae) (xs:=r15.Duties) rfl rfl (bz eY)) (dx (ew (f:=I) (g:=I) (xs:=r15.Balances) rfl rfl (bz oz)) (dx (hJ rfl) kC)))))) cz)) (Nc hr16) (.inl rfl) dA rfl rfl rfl)) ?_ (ct rfl rfl rfl rfl (bh (oU (dx (hJ rfl) (dx (iI (path:=[(0,1)]) rfl rfl (ec rfl rfl aN) rfl (bz (f:=str) dZ)) (dx (iI (path:=[(0,2)]) rfl rfl (ec rfl rfl aN) rfl (bz (f:=ae) eY)) (dx (iI (path:=[(0,3)]) rfl rfl (ec rfl rfl aN) rfl (bz (f:=I) oz)) (dx (hJ rfl) kC)))))) (bh (oU (dx (hJ rfl) (dx (ew (f:=str) (g:=str) (xs:=r15.Facts) rfl rfl (bz dZ)) (dx (ew (f:=ae) (g:=ae) (xs:=r15.Duties) rfl rfl (bz eY)) (dx (ew (f:=I) (g:=I) (xs:=r15.Balances) rfl rfl (bz oz)) (dx (hJ rfl) kC)))))) cz)) (Nc hr16) (.inl rfl) rfl)
      refine dk 1 [61] [B (!r16)] ?_
      refine de 165 rfl rfl ?_
      refine sq h (fun h=>?_) fun h=>?_
      ·refine cq 4 [6] [B false] 181 ?_
       obtain rfl:=Option.some.inj h
       exact ai rfl (qp [B false])
      ·refine aq 1 ?_
       refine cq 4 [6] [B true] 181 ?_
       obtain rfl:=Option.some.inj h
       exact ai rfl (qp [B true])
   replace h:=hu12
   clear hu12
   refine sp 47 h rfl (fun h=>?_) fun h=>?_
   ·refine cq 5 [51] [B true] 833 ?_
    subst h
    exact rf [3,4,10,11,51] [1,17,465,529] (j12 :)
   ·refine cq 5 [51] [B (!(r11.2==r8.2))] 833 ?_
    subst h
    exact rf [3,4,10,11,51] [1,17,465,529] (j12 :)
theorem oo {G:Go.Ln.Ground}:aH Tryz.prog G 7 gh:=gT 3 0 (aB Nl (aB P9 (aB OJ (aB Pq (aB QP (aB Sm (aB Px (aB Nt bc)))))))) (Checked.mixed Tryz.checked) Tryz.func7 (fun a r h=>pd a.1 a.2.1 a.2.2 r h)
end Go.Ln
