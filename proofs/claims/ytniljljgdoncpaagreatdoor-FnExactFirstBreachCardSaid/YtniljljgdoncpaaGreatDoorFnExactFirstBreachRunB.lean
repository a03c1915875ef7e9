/-
  Each function of the program computes its plain function.
-/
import Derived.Test.YtniljljgdoncpaaGreatDoorFnExactFirstBreachRunA
set_option maxHeartbeats 4000000
set_option linter.unusedVariables false
set_option linter.unusedSimpArgs false
set_option maxRecDepth 100000
namespace Go.Ln
open Go Go.Proofs
theorem Ffl_run (c_1 : Contract) (i_2 : Int) (r : Bool) (h : Ffl c_1 i_2=some r) : RunF Ffl_E Tryz.f104 [false,false] 0 (Ffl_A (c_1,i_2)) (Ffl_R r):=by
 show Run _ _ (Ffl_Q (c_1,i_2) r) [.code Ffl_c] _
 refine rin (n:=119) [(0,.agg [.isl false ((c_1.Parties).map str),.isl false ((c_1.Clauses).map encI_Clause)]),(1,I (i_2))] [] 1 (by kernel_rfl) (by kernel_rfl) (by kernel_rfl) rfl ?_
 unfold Ffl at h
 refine ck 10 [2,9,10] [] [1] [] [.hp 1 0 [] 2 0 0,.isl false ((c_1.Clauses).map encI_Clause),I (i_2)] [some ⟨0,2,[.agg [.isl false ((c_1.Parties).map str),.isl false ((c_1.Clauses).map encI_Clause)]]⟩] 81 (by kernel_rfl) ?_
 obtain ⟨e3,he3,h⟩:=bS h
 refine oq 97 (.iptr (.agg [str (e3.Id),I (e3.Kind),I (e3.Party),str (e3.Action),I (e3.Other),I (e3.Amount),I (e3.When.Op),str (e3.When.Name),I (e3.When.Day),.isl false ((e3.When.Parts).map encI_Condition),I (e3.Within),str (e3.Repair)]) 0) rfl (e_indexAddr rfl rfl rfl (ix_islE rfl rfl rfl rfl he3)) ?_
 refine ck 2 [5,12] [] [113] [] [.hp 113 0 [] 12 0 0,.agg [str (e3.Id),I (e3.Kind),I (e3.Party),str (e3.Action),I (e3.Other),I (e3.Amount),I (e3.When.Op),str (e3.When.Name),I (e3.When.Day),.isl false ((e3.When.Parts).map encI_Condition),I (e3.Within),str (e3.Repair)]] [some ⟨0,12,[.agg [str ([]),I (0),I (0),str ([]),I (0),I (0),I (0),str ([]),I (0),.isl true [],I (0),str ([])]]⟩] 129 (by kernel_rfl) ?_
 refine run_row 113 [.agg [str ([]),I (0),I (0),str ([]),I (0),I (0),I (0),str ([]),I (0),.usl 4 (([]).map encO_Condition),I (0),str ([])]] rfl rfl (cvs_c (cv_agg (cvs_c (.refl _) (cvs_c (.refl _) (cvs_c (.refl _) (cvs_c (.refl _) (cvs_c (.refl _) (cvs_c (.refl _) (cvs_c (.refl _) (cvs_c (.refl _) (cvs_c (.refl _) (cvs_c (.nil _) (cvs_c (.refl _) (cvs_c (.refl _) (cvs_n)))))))))))))) cvs_n) ?_
 refine ck 6 [14] [] [113] [] [.isl false ((c_1.Parties).map str)] [some ⟨2,12,[.agg [str (e3.Id),I (e3.Kind),I (e3.Party),str (e3.Action),I (e3.Other),I (e3.Amount),I (e3.When.Op),str (e3.When.Name),I (e3.When.Day),.isl false ((e3.When.Parts).map encI_Condition),I (e3.Within),str (e3.Repair)]]⟩] 177 (by kernel_rfl) ?_
 refine oq 193 (I ((len c_1.Parties))) rfl (e_len rfl rfl rfl (l_isl rfl)) ?_
 refine cq 8 [6,18] [I ((w64 ((len c_1.Parties) - 1))),str (e3.Id)] 257 ?_
 obtain ⟨r4,hr4,h⟩:=bS h
 refine oq 273 (B (r4)) rfl (e_callV rfl rfl (call_P rfl rfl rfl (avS (shP rfl) (avN)) (Ffd_F hr4) (.inr rfl) (bl_n) rfl rfl rfl)) ?_
 refine cq 2 [21] [B ((!r4))] 305 ?_
 obtain ⟨y5,hy5,hy51,hy52⟩:=bJ h
 have j5 : ∀ u5,y5=.inr u5→Run Ffl_E 0 (Ffl_Q (c_1,i_2) r) (.code (cR (cL (cR (cR (cR Ffl_c))))) :: .code (cR (cR (cR (cR Ffl_c)))) :: []) (sT 119 [(1,I (i_2)),(2,.hp 1 0 [] 2 0 0),(5,.hp 2 0 [] 12 0 0),(6,I ((w64 ((len c_1.Parties) - 1)))),(40,B (u5))] [⟨0,2,[.agg [.isl false ((c_1.Parties).map str),.isl false ((c_1.Clauses).map encI_Clause)]]⟩,⟨0,12,[.agg [str (e3.Id),I (e3.Kind),I (e3.Party),str (e3.Action),I (e3.Other),I (e3.Amount),I (e3.When.Op),str (e3.When.Name),I (e3.When.Day),.isl false ((e3.When.Parts).map encI_Condition),I (e3.Within),str (e3.Repair)]]⟩] 3):=by
   intro u5 hu
   replace h:=hy52 u5 hu
   refine sq h (fun h=>?_) (fun h=>?_)
   · refine cq 4 [4] [B (false)] 19 ?_
     obtain rfl:=Option.some.inj h
     exact s_ret rfl ⟨_,fin (vs:=[B (false)]) rfl (absE (absorb_plain rfl) (absEN)) rfl (ou_f (ou_f (ou_n))),kl_n⟩
   · refine aq 1 ?_
     refine cq 6 [42,43] [I (e3.Party),I ((w64 ((len c_1.Parties) - 1)))] 51 ?_
     obtain ⟨r6,hr6,h⟩:=bS h
     refine oq 67 (B (r6)) rfl (e_callV rfl rfl (call_P rfl rfl rfl (avS (shP rfl) (avS (shP rfl) (avS (shP rfl) (avN)))) (Ffp_F hr6) (.inr rfl) (bl_n) rfl rfl rfl)) ?_
     refine cq 2 [46] [B ((!r6))] 99 ?_
     obtain ⟨y7,hy7,hy71,hy72⟩:=bJ h
     have j7 : ∀ u7,y7=.inr u7→Run Ffl_E 0 (Ffl_Q (c_1,i_2) r) (.code Ffl_ka :: .code (cR (cR (cR (cR (cR Ffl_c))))) :: []) (sT 119 [(1,I (i_2)),(2,.hp 1 0 [] 2 0 0),(5,.hp 2 0 [] 12 0 0),(65,B (u7))] [⟨0,2,[.agg [.isl false ((c_1.Parties).map str),.isl false ((c_1.Clauses).map encI_Clause)]]⟩,⟨0,12,[.agg [str (e3.Id),I (e3.Kind),I (e3.Party),str (e3.Action),I (e3.Other),I (e3.Amount),I (e3.When.Op),str (e3.When.Name),I (e3.When.Day),.isl false ((e3.When.Parts).map encI_Condition),I (e3.Within),str (e3.Repair)]]⟩] 3):=by
       intro u7 hu
       replace h:=hy72 u7 hu
       refine sq h (fun h=>?_) (fun h=>?_)
       · refine cq 4 [4] [B (false)] 19 ?_
         obtain rfl:=Option.some.inj h
         exact s_ret rfl ⟨_,fin (vs:=[B (false)]) rfl (absE (absorb_plain rfl) (absEN)) rfl (ou_f (ou_f (ou_n))),kl_n⟩
       · refine aq 1 ?_
         refine cq 5 [67] [I (e3.Amount)] 35 ?_
         obtain ⟨r8,hr8,h⟩:=bS h
         refine oq 51 (B (r8)) rfl (e_callV rfl rfl (call_P rfl rfl rfl (avS (shP rfl) (avS (shP rfl) (avS (shP rfl) (avN)))) (Ffp_F hr8) (.inr rfl) (bl_n) rfl rfl rfl)) ?_
         refine cq 2 [70] [B ((!r8))] 83 ?_
         obtain ⟨y9,hy9,hy91,hy92⟩:=bJ h
         have j9 : ∀ u9,y9=.inr u9→Run Ffl_E 0 (Ffl_Q (c_1,i_2) r) (.code Ffl_kc :: .code Ffl_kb :: []) (sT 119 [(1,I (i_2)),(2,.hp 1 0 [] 2 0 0),(5,.hp 2 0 [] 12 0 0),(90,B (u9))] [⟨0,2,[.agg [.isl false ((c_1.Parties).map str),.isl false ((c_1.Clauses).map encI_Clause)]]⟩,⟨0,12,[.agg [str (e3.Id),I (e3.Kind),I (e3.Party),str (e3.Action),I (e3.Other),I (e3.Amount),I (e3.When.Op),str (e3.When.Name),I (e3.When.Day),.isl false ((e3.When.Parts).map encI_Condition),I (e3.Within),str (e3.Repair)]]⟩] 3):=by
           intro u9 hu
           replace h:=hy92 u9 hu
           refine sq h (fun h=>?_) (fun h=>?_)
           · refine cq 4 [4] [B (false)] 19 ?_
             obtain rfl:=Option.some.inj h
             exact s_ret rfl ⟨_,fin (vs:=[B (false)]) rfl (absE (absorb_plain rfl) (absEN)) rfl (ou_f (ou_f (ou_n))),kl_n⟩
           · refine aq 1 ?_
             refine cq 7 [93] [B ((e3.Repair == ([] : Str)))] 51 ?_
             refine sq h (fun h=>?_) (fun h=>?_)
             · refine cq 4 [4] [B (true)] 67 ?_
               obtain rfl:=Option.some.inj h
               exact s_ret rfl ⟨_,fin (vs:=[B (true)]) rfl (absE (absorb_plain rfl) (absEN)) rfl (ou_f (ou_f (ou_n))),kl_n⟩
             · refine aq 1 ?_
               refine cq 5 [94,96] [.agg [.isl false ((c_1.Parties).map str),.isl false ((c_1.Clauses).map encI_Clause)],str (e3.Repair)] 99 ?_
               obtain ⟨r10,hr10,h⟩:=bS h
               refine oq 115 (I (r10)) rfl (e_callV rfl rfl (call_P rfl rfl rfl (avS (shP rfl) (avS (shP rfl) (avN))) (Ffg_F hr10) (.inr rfl) (bl_n) rfl rfl rfl)) ?_
               refine cq 8 [7,101] [I (r10),B ((e3.Kind != 3))] 195 ?_
               obtain ⟨y11,hy11,hy111,hy112⟩:=bJ h
               have j11 : ∀ u11,y11=.inr u11→Run Ffl_E 0 (Ffl_Q (c_1,i_2) r) (.code Ffl_kd :: []) (sT 119 [(4,B (u11))] [] 1):=by
                 intro u11 hu
                 replace h:=hy112 u11 hu
                 obtain rfl:=Option.some.inj h
                 exact s_ret rfl ⟨_,fin (vs:=[B (u11)]) rfl (absE (absorb_plain rfl) (absEN)) rfl (ou_f (ou_f (ou_n))),kl_n⟩
               have r11 : ∀ r',y11=.inl r'→∀ st,Ffl_Q (c_1,i_2) r' st→(Ffl_Q (c_1,i_2) r) st:=fun r' e st hq=>by rw [hy111 r' e] at hq; exact hq
               replace h:=hy11
               refine sp 101 h rfl (fun h=>?_) (fun h=>?_)
               · refine cq 4 [105] [B ((decide (r10 ≥ 0)))] 259 ?_
                 obtain ⟨y12,hy12,hy121,hy122⟩:=bL h
                 have j12 : ∀ u12,y12=.inr u12→Run Ffl_E 0 (Ffl_Q (c_1,i_2) r) (.code Ffl_kd :: []) (sT 119 [(4,B (u12))] [] 1):=by
                   intro u12 hu
                   replace h:=hy122 u12 hu
                   exact rf [4] [] (j11 _ (Option.some.inj h).symm :)
                 have r12 : ∀ r',y12=.inl r'→∀ st,Ffl_Q (c_1,i_2) r' st→(Ffl_Q (c_1,i_2) r) st:=fun r' e st hq=>r11 r' (hy121 r' e) st hq
                 replace h:=hy12
                 refine sp 105 h rfl (fun h=>?_) (fun h=>?_)
                 · refine cq 5 [110] [B ((r10 != i_2))] 339 ?_
                   obtain ⟨y13,hy13,hy131,hy132⟩:=bL h
                   have j13 : ∀ u13,y13=.inr u13→Run Ffl_E 0 (Ffl_Q (c_1,i_2) r) (.code Ffl_kd :: []) (sT 119 [(4,B (u13))] [] 1):=by
                     intro u13 hu
                     replace h:=hy132 u13 hu
                     exact rf [4] [] (j12 _ (Option.some.inj h).symm :)
                   have r13 : ∀ r',y13=.inl r'→∀ st,Ffl_Q (c_1,i_2) r' st→(Ffl_Q (c_1,i_2) r) st:=fun r' e st hq=>r12 r' (hy131 r' e) st hq
                   replace h:=hy13
                   refine sp 110 h rfl (fun h=>?_) (fun h=>?_)
                   · refine cq 3 [112,113] [.isl false ((c_1.Clauses).map encI_Clause),I (r10)] 387 ?_
                     obtain ⟨e14,he14,h⟩:=bS h
                     refine oy 403 (.iptr (.agg [str (e14.Id),I (e14.Kind),I (e14.Party),str (e14.Action),I (e14.Other),I (e14.Amount),I (e14.When.Op),str (e14.When.Name),I (e14.When.Day),.isl false ((e14.When.Parts).map encI_Condition),I (e14.Within),str (e14.Repair)]) 0) rfl (e_indexAddr rfl rfl rfl (ix_islE rfl rfl rfl rfl he14)) ?_
                     refine cq 6 [4] [B ((e14.Kind == 1))] 483 ?_
                     exact rf [4] [] (j13 _ (Option.some.inj h).symm :)
                   · refine cq 10 [4] [B (false)] 483 ?_
                     exact rf [4] [] (j13 _ (Option.some.inj h).symm :)
                 · refine cq 15 [4] [B (false)] 483 ?_
                   exact rf [4] [] (j12 _ (Option.some.inj h).symm :)
               · refine cq 19 [4] [B (false)] 483 ?_
                 exact rf [4] [] (j11 _ (Option.some.inj h).symm :)
         have r9 : ∀ r',y9=.inl r'→∀ st,Ffl_Q (c_1,i_2) r' st→(Ffl_Q (c_1,i_2) r) st:=fun r' e st hq=>by rw [hy91 r' e] at hq; exact hq
         replace h:=hy9
         refine sp 70 h rfl (fun h=>?_) (fun h=>?_)
         · refine cq 21 [90] [B (true)] 403 ?_
           exact rf [1,2,5,90] [1,2] (j9 _ (Option.some.inj h).symm :)
         · refine cq 2 [72] [I (e3.Within)] 115 ?_
           obtain ⟨r15,hr15,h⟩:=bS h
           refine oy 131 (B (r15)) rfl (e_callV rfl rfl (call_P rfl rfl rfl (avS (shP rfl) (avS (shP rfl) (avS (shP rfl) (avN)))) (Ffp_F hr15) (.inr rfl) (bl_n) rfl rfl rfl)) ?_
           refine cq 3 [76] [B ((!r15))] 179 ?_
           obtain ⟨u16,hu16,h⟩:=lJ h
           have j16 : Run Ffl_E 0 (Ffl_Q (c_1,i_2) r) (.code Ffl_kc :: .code Ffl_kb :: []) (sT 119 [(1,I (i_2)),(2,.hp 1 0 [] 2 0 0),(5,.hp 2 0 [] 12 0 0),(90,B (u16))] [⟨0,2,[.agg [.isl false ((c_1.Parties).map str),.isl false ((c_1.Clauses).map encI_Clause)]]⟩,⟨0,12,[.agg [str (e3.Id),I (e3.Kind),I (e3.Party),str (e3.Action),I (e3.Other),I (e3.Amount),I (e3.When.Op),str (e3.When.Name),I (e3.When.Day),.isl false ((e3.When.Parts).map encI_Condition),I (e3.Within),str (e3.Repair)]]⟩] 3):=by
             exact rf [1,2,5,90] [1,2] (j9 _ (Option.some.inj h).symm :)
           replace h:=hu16
           clear hu16
           refine sp 76 h rfl (fun h=>?_) (fun h=>?_)
           · refine cq 15 [90] [B (true)] 403 ?_
             subst h
             exact rf [1,2,5,90] [1,2] (j16 :)
           · refine cq 4 [80] [B ((e3.Kind != 1))] 243 ?_
             obtain ⟨u17,hu17,h⟩:=lJ h
             have j17 : Run Ffl_E 0 (Ffl_Q (c_1,i_2) r) (.code Ffl_kc :: .code Ffl_kb :: []) (sT 119 [(1,I (i_2)),(2,.hp 1 0 [] 2 0 0),(5,.hp 2 0 [] 12 0 0),(90,B (u17))] [⟨0,2,[.agg [.isl false ((c_1.Parties).map str),.isl false ((c_1.Clauses).map encI_Clause)]]⟩,⟨0,12,[.agg [str (e3.Id),I (e3.Kind),I (e3.Party),str (e3.Action),I (e3.Other),I (e3.Amount),I (e3.When.Op),str (e3.When.Name),I (e3.When.Day),.isl false ((e3.When.Parts).map encI_Condition),I (e3.Within),str (e3.Repair)]]⟩] 3):=by
               subst h
               exact rf [1,2,5,90] [1,2] (j16 :)
             replace h:=hu17
             clear hu17
             refine sp 80 h rfl (fun h=>?_) (fun h=>?_)
             · refine cq 4 [84] [B ((e3.Amount != 0))] 307 ?_
               obtain ⟨u18,hu18,h⟩:=lJ h
               have j18 : Run Ffl_E 0 (Ffl_Q (c_1,i_2) r) (.code Ffl_kc :: .code Ffl_kb :: []) (sT 119 [(1,I (i_2)),(2,.hp 1 0 [] 2 0 0),(5,.hp 2 0 [] 12 0 0),(90,B (u18))] [⟨0,2,[.agg [.isl false ((c_1.Parties).map str),.isl false ((c_1.Clauses).map encI_Clause)]]⟩,⟨0,12,[.agg [str (e3.Id),I (e3.Kind),I (e3.Party),str (e3.Action),I (e3.Other),I (e3.Amount),I (e3.When.Op),str (e3.When.Name),I (e3.When.Day),.isl false ((e3.When.Parts).map encI_Condition),I (e3.Within),str (e3.Repair)]]⟩] 3):=by
                 subst h
                 exact rf [1,2,5,90] [1,2] (j17 :)
               replace h:=hu18
               clear hu18
               refine sp 84 h rfl (fun h=>?_) (fun h=>?_)
               · refine cq 7 [90] [B (true)] 403 ?_
                 subst h
                 exact rf [1,2,5,90] [1,2] (j18 :)
               · refine cq 7 [90] [B ((e3.Within != 0))] 403 ?_
                 subst h
                 exact rf [1,2,5,90] [1,2] (j18 :)
             · refine cq 11 [90] [B (false)] 403 ?_
               subst h
               exact rf [1,2,5,90] [1,2] (j17 :)
     have r7 : ∀ r',y7=.inl r'→∀ st,Ffl_Q (c_1,i_2) r' st→(Ffl_Q (c_1,i_2) r) st:=fun r' e st hq=>by rw [hy71 r' e] at hq; exact hq
     replace h:=hy7
     refine sp 46 h rfl (fun h=>?_) (fun h=>?_)
     · refine cq 20 [65] [B (true)] 403 ?_
       exact rf [1,2,5,65] [1,2] (j7 _ (Option.some.inj h).symm :)
     · refine cq 3 [48,49] [I (e3.Other),I ((w64 ((len c_1.Parties) - 1)))] 147 ?_
       obtain ⟨r19,hr19,h⟩:=bS h
       refine oy 163 (B (r19)) rfl (e_callV rfl rfl (call_P rfl rfl rfl (avS (shP rfl) (avS (shP rfl) (avS (shP rfl) (avN)))) (Ffp_F hr19) (.inr rfl) (bl_n) rfl rfl rfl)) ?_
       refine cq 3 [53] [B ((!r19))] 211 ?_
       obtain ⟨y20,hy20,hy201,hy202⟩:=bL h
       have j20 : ∀ u20,y20=.inr u20→Run Ffl_E 0 (Ffl_Q (c_1,i_2) r) (.code Ffl_ka :: .code (cR (cR (cR (cR (cR Ffl_c))))) :: []) (sT 119 [(1,I (i_2)),(2,.hp 1 0 [] 2 0 0),(5,.hp 2 0 [] 12 0 0),(65,B (u20))] [⟨0,2,[.agg [.isl false ((c_1.Parties).map str),.isl false ((c_1.Clauses).map encI_Clause)]]⟩,⟨0,12,[.agg [str (e3.Id),I (e3.Kind),I (e3.Party),str (e3.Action),I (e3.Other),I (e3.Amount),I (e3.When.Op),str (e3.When.Name),I (e3.When.Day),.isl false ((e3.When.Parts).map encI_Condition),I (e3.Within),str (e3.Repair)]]⟩] 3):=by
         intro u20 hu
         replace h:=hy202 u20 hu
         exact rf [1,2,5,65] [1,2] (j7 _ (Option.some.inj h).symm :)
       have r20 : ∀ r',y20=.inl r'→∀ st,Ffl_Q (c_1,i_2) r' st→(Ffl_Q (c_1,i_2) r) st:=fun r' e st hq=>r7 r' (hy201 r' e) st hq
       replace h:=hy20
       refine sp 53 h rfl (fun h=>?_) (fun h=>?_)
       · refine cq 13 [65] [B (true)] 403 ?_
         exact rf [1,2,5,65] [1,2] (j20 _ (Option.some.inj h).symm :)
       · refine cq 7 [60] [B ((e3.Party == e3.Other))] 323 ?_
         obtain ⟨y21,hy21,hy211,hy212⟩:=bL h
         have j21 : ∀ u21,y21=.inr u21→Run Ffl_E 0 (Ffl_Q (c_1,i_2) r) (.code Ffl_ka :: .code (cR (cR (cR (cR (cR Ffl_c))))) :: []) (sT 119 [(1,I (i_2)),(2,.hp 1 0 [] 2 0 0),(5,.hp 2 0 [] 12 0 0),(65,B (u21))] [⟨0,2,[.agg [.isl false ((c_1.Parties).map str),.isl false ((c_1.Clauses).map encI_Clause)]]⟩,⟨0,12,[.agg [str (e3.Id),I (e3.Kind),I (e3.Party),str (e3.Action),I (e3.Other),I (e3.Amount),I (e3.When.Op),str (e3.When.Name),I (e3.When.Day),.isl false ((e3.When.Parts).map encI_Condition),I (e3.Within),str (e3.Repair)]]⟩] 3):=by
           intro u21 hu
           replace h:=hy212 u21 hu
           exact rf [1,2,5,65] [1,2] (j20 _ (Option.some.inj h).symm :)
         have r21 : ∀ r',y21=.inl r'→∀ st,Ffl_Q (c_1,i_2) r' st→(Ffl_Q (c_1,i_2) r) st:=fun r' e st hq=>r20 r' (hy211 r' e) st hq
         replace h:=hy21
         refine sp 60 h rfl (fun h=>?_) (fun h=>?_)
         · refine cq 6 [65] [B (true)] 403 ?_
           exact rf [1,2,5,65] [1,2] (j21 _ (Option.some.inj h).symm :)
         · refine cq 2 [62] [.agg [I (e3.When.Op),str (e3.When.Name),I (e3.When.Day),.isl false ((e3.When.Parts).map encI_Condition)]] 355 ?_
           obtain ⟨r22,hr22,h⟩:=bS h
           refine oy 371 (B (r22)) rfl (e_callV rfl rfl (call_P rfl rfl rfl (avS (shP rfl) (avN)) (Ffb_F hr22) (.inr rfl) (bl_n) rfl rfl rfl)) ?_
           refine cq 3 [65] [B ((!r22))] 403 ?_
           exact rf [1,2,5,65] [1,2] (j21 _ (Option.some.inj h).symm :)
 have r5 : ∀ r',y5=.inl r'→∀ st,Ffl_Q (c_1,i_2) r' st→(Ffl_Q (c_1,i_2) r) st:=fun r' e st hq=>by rw [hy51 r' e] at hq; exact hq
 replace h:=hy5
 refine sp 21 h rfl (fun h=>?_) (fun h=>?_)
 · refine cq 20 [40] [B (true)] 609 ?_
   exact rf [1,2,5,6,40] [1,113] (j5 _ (Option.some.inj h).symm :)
 · refine cq 3 [22,24] [.agg [.isl false ((c_1.Parties).map str),.isl false ((c_1.Clauses).map encI_Clause)],str (e3.Id)] 353 ?_
   obtain ⟨r23,hr23,h⟩:=bS h
   refine oy 369 (I (r23)) rfl (e_callV rfl rfl (call_P rfl rfl rfl (avS (shP rfl) (avS (shP rfl) (avN))) (Ffg_F hr23) (.inr rfl) (bl_n) rfl rfl rfl)) ?_
   refine cq 4 [29] [B ((r23 != i_2))] 433 ?_
   obtain ⟨y24,hy24,hy241,hy242⟩:=bL h
   have j24 : ∀ u24,y24=.inr u24→Run Ffl_E 0 (Ffl_Q (c_1,i_2) r) (.code (cR (cL (cR (cR (cR Ffl_c))))) :: .code (cR (cR (cR (cR Ffl_c)))) :: []) (sT 119 [(1,I (i_2)),(2,.hp 1 0 [] 2 0 0),(5,.hp 2 0 [] 12 0 0),(6,I ((w64 ((len c_1.Parties) - 1)))),(40,B (u24))] [⟨0,2,[.agg [.isl false ((c_1.Parties).map str),.isl false ((c_1.Clauses).map encI_Clause)]]⟩,⟨0,12,[.agg [str (e3.Id),I (e3.Kind),I (e3.Party),str (e3.Action),I (e3.Other),I (e3.Amount),I (e3.When.Op),str (e3.When.Name),I (e3.When.Day),.isl false ((e3.When.Parts).map encI_Condition),I (e3.Within),str (e3.Repair)]]⟩] 3):=by
     intro u24 hu
     replace h:=hy242 u24 hu
     exact rf [1,2,5,6,40] [1,2] (j5 _ (Option.some.inj h).symm :)
   have r24 : ∀ r',y24=.inl r'→∀ st,Ffl_Q (c_1,i_2) r' st→(Ffl_Q (c_1,i_2) r) st:=fun r' e st hq=>r5 r' (hy241 r' e) st hq
   replace h:=hy24
   refine sp 29 h rfl (fun h=>?_) (fun h=>?_)
   · refine cq 12 [40] [B (true)] 609 ?_
     exact rf [1,2,5,6,40] [1,113] (j24 _ (Option.some.inj h).symm :)
   · refine cq 2 [31] [str (e3.Action)] 465 ?_
     obtain ⟨r25,hr25,h⟩:=bS h
     refine oy 481 (B (r25)) rfl (e_callV rfl rfl (call_P rfl rfl rfl (avS (shP rfl) (avN)) (Ffd_F hr25) (.inr rfl) (bl_n) rfl rfl rfl)) ?_
     refine cq 3 [35] [B ((!r25))] 529 ?_
     obtain ⟨y26,hy26,hy261,hy262⟩:=bL h
     have j26 : ∀ u26,y26=.inr u26→Run Ffl_E 0 (Ffl_Q (c_1,i_2) r) (.code (cR (cL (cR (cR (cR Ffl_c))))) :: .code (cR (cR (cR (cR Ffl_c)))) :: []) (sT 119 [(1,I (i_2)),(2,.hp 1 0 [] 2 0 0),(5,.hp 2 0 [] 12 0 0),(6,I ((w64 ((len c_1.Parties) - 1)))),(40,B (u26))] [⟨0,2,[.agg [.isl false ((c_1.Parties).map str),.isl false ((c_1.Clauses).map encI_Clause)]]⟩,⟨0,12,[.agg [str (e3.Id),I (e3.Kind),I (e3.Party),str (e3.Action),I (e3.Other),I (e3.Amount),I (e3.When.Op),str (e3.When.Name),I (e3.When.Day),.isl false ((e3.When.Parts).map encI_Condition),I (e3.Within),str (e3.Repair)]]⟩] 3):=by
       intro u26 hu
       replace h:=hy262 u26 hu
       exact rf [1,2,5,6,40] [1,2] (j24 _ (Option.some.inj h).symm :)
     have r26 : ∀ r',y26=.inl r'→∀ st,Ffl_Q (c_1,i_2) r' st→(Ffl_Q (c_1,i_2) r) st:=fun r' e st hq=>r24 r' (hy261 r' e) st hq
     replace h:=hy26
     refine sp 35 h rfl (fun h=>?_) (fun h=>?_)
     · refine cq 6 [40] [B (true)] 609 ?_
       exact rf [1,2,5,6,40] [1,113] (j26 _ (Option.some.inj h).symm :)
     · refine cq 2 [37] [I (e3.Kind)] 561 ?_
       obtain ⟨r27,hr27,h⟩:=bS h
       refine oy 577 (B (r27)) rfl (e_callV rfl rfl (call_P rfl rfl rfl (avS (shP rfl) (avS (shP rfl) (avS (shP rfl) (avN)))) (Ffp_F hr27) (.inr rfl) (bl_n) rfl rfl rfl)) ?_
       refine cq 3 [40] [B ((!r27))] 609 ?_
       exact rf [1,2,5,6,40] [1,113] (j26 _ (Option.some.inj h).symm :)
theorem Ffl_good {G : Go.Ln.Ground} : Good Tryz.prog G 104 Ffl_ent:=good_T (fnOf_good (gl_c Ffd_good (gl_c Ffp_good (gl_c Ffg_good (gl_c Ffb_good (gl_n)))))) agree_mk (Checked.mixed Tryz.checked) Tryz.func104 (n:=2) (m:=0) ⟨rfl,rfl,by decide⟩ (fun _=>⟨rfl,rfl⟩) (fun a r h=>Ffl_run a.1 a.2 r h)
def Ffe_A : (Condition × (List Str))→List V:=cA encI_Condition1 (oA (usE 1 str))
def Ffe_R (r : (List Str)) : V × List V:=(.usl 1 ((r).map str),[.dead])
noncomputable def Ffe_entS (slf_Ffe : (Condition × (List Str))→Option ((List Str))) : Ent:=entT [false,true] Ffe_A Ffe_R slf_Ffe
theorem Ffe_FS (slf_Ffe : (Condition × (List Str))→Option ((List Str))) {x} {r} (h : slf_Ffe x=some r) : (Ffe_entS slf_Ffe).F (Ffe_A x)=some (Ffe_R r):=entT_F (cA_inj encI_Condition1_inj (oA_inj (usl_inj str_inj))) h
noncomputable def Ffe_ent : Ent:=Ffe_entS (fixO Ffe_G)
theorem Ffe_F {c_3 : Condition} {list_4 : List Str} {r} (h : Ffe c_3 list_4=some r) : Ffe_ent.F (Ffe_A (c_3,list_4))=some (Ffe_R r):=Ffe_FS (fixO Ffe_G) h
noncomputable def Ffe_c : Code:=bodyOf Tryz.f134
noncomputable def Ffe_E (slf_Ffe : (Condition × (List Str))→Option ((List Str))) : Env:=mkE Tryz.prog [(134,(Ffe_entS slf_Ffe))]
def Ffe_Q (slf_Ffe : (Condition × (List Str))→Option ((List Str))) (x : Condition × (List Str)) (r : (List Str)) : St→Prop:=QF (Ffe_E slf_Ffe) Tryz.f134 [false,true] (Ffe_A x) (Ffe_R r)
theorem Ffe_la_run (slf_Ffe : (Condition × (List Str))→Option ((List Str))) (c_3 : Condition) (list_4 : List Str)  {Q : St→Prop} {K : List It} (hK : noD K=true) : ∀ (x4 : Int × (List Str)) (y : ((List Str)) ⊕ ((List Str))),Ffe_la slf_Ffe c_3 list_4 x4=some y→(∀ r',y=.inl r'→∀ st,Ffe_Q slf_Ffe (c_3,list_4) r' st→Q st)→(∀ u : (List Str),y=.inr u→Run (Ffe_E slf_Ffe) 1 Q K (sO 27 [(1,.hs 2 0 [] 1 0 ((u).map str).length)] [none,some ⟨0,1,(u).map str⟩] 3))→Run (Ffe_E slf_Ffe) 1 Q (.code (cL (cL (cR (cL (cR (cR Ffe_c)))))) :: .lp (cL (cL (cR (cL (cR (cR Ffe_c)))))) :: .blk 0 :: K) (sO 27 [(1,.hs 2 0 [] 1 0 ((x4.2).map str).length),(16,.isl false ((c_3.Parts).map encI_Condition)),(17,I ((len c_3.Parts))),(18,I (x4.1))] [none,some ⟨0,1,(x4.2).map str⟩] 3):=by
 refine fix_indP (Ffe_la_fin slf_Ffe c_3 list_4) ?_
 intro self ih x4 y h hr hn
 unfold Ffe_la_F at h
 refine cq 5 [19] [B ((decide (x4.1 < (len c_3.Parts))))] 19 ?_
 refine sq h (fun h=>?_) (fun h=>?_)
 · refine aq 1 ?_
   refine aq 4 ?_
   obtain ⟨e5,he5,h⟩:=bS h
   refine oq 35 (.iptr (.agg [I (e5.Op),str (e5.Name),I (e5.Day),.isl false ((e5.Parts).map encI_Condition)]) 0) rfl (e_indexAddr rfl rfl rfl (ix_islE rfl rfl (encI_Condition_eq e5) rfl he5)) ?_
   refine ck 2 [6,21] [] [51] [] [.hp 51 0 [] 4 0 0,.agg [I (e5.Op),str (e5.Name),I (e5.Day),.isl false ((e5.Parts).map encI_Condition)]] [some ⟨0,4,[.agg [I (0),str ([]),I (0),.isl true []]]⟩] 67 (by kernel_rfl) ?_
   refine run_row 51 [.agg [I (0),str ([]),I (0),.usl 4 (([]).map encO_Condition)]] rfl rfl (cvs_c (cv_agg (cvs_c (.refl _) (cvs_c (.refl _) (cvs_c (.refl _) (cvs_c (.nil _) (cvs_n)))))) cvs_n) ?_
   refine ck 5 [22,23] [] [51] [] [.agg [I (e5.Op),str (e5.Name),I (e5.Day),.isl false ((e5.Parts).map encI_Condition)],.hs 2 0 [] 1 0 ((x4.2).map str).length] [some ⟨2,4,[.agg [I (e5.Op),str (e5.Name),I (e5.Day),.isl false ((e5.Parts).map encI_Condition)]]⟩] 115 (by kernel_rfl) ?_
   obtain ⟨r6,hr6,h⟩:=bS h
   refine oq 131 (.hs 115 0 [] 1 0 ((r6).map str).length) rfl (e_callV rfl rfl (call_P rfl rfl rfl (avS (shP rfl) (avO (hd1 rfl (hd_hs (path:=[]) rfl rfl (ra_n) rfl)) (avN))) (Ffe_FS slf_Ffe hr6) (.inr rfl) (bl_c rfl rfl rfl bk_dead (bl_n)) rfl rfl rfl)) ?_
   refine cq 7 [1,18] [.hs 115 0 [] 1 0 ((r6).map str).length,I ((w64 (x4.1 + 1)))] 179 ?_
   refine s_lp ?_
   exact rg [1,16,17,18] [180,115] (ih _ _ h hr hn :)
 · refine aq 1 ?_
   exact rg [1] [20,2] (hn _ (Option.some.inj h).symm :) (hk:=hK)
theorem Ffe_run (slf_Ffe : (Condition × (List Str))→Option ((List Str))) (c_3 : Condition) (list_4 : List Str) (r : (List Str)) (h : Ffe_B slf_Ffe c_3 list_4=some r) : RunF (Ffe_E slf_Ffe) Tryz.f134 [false,true] 1 (Ffe_A (c_3,list_4)) (Ffe_R r):=by
 show Run _ _ (Ffe_Q slf_Ffe (c_3,list_4) r) [.code Ffe_c] _
 refine rin (n:=27) [(0,.agg [I (c_3.Op),str (c_3.Name),I (c_3.Day),.isl false ((c_3.Parts).map encI_Condition)]),(1,.hs 1 0 [] 1 0 ((list_4).map str).length)] [(1,some ⟨0,1,(list_4).map str⟩)] 2 (by kernel_rfl) (by kernel_rfl) (by kernel_rfl) rfl ?_
 unfold Ffe_B at h
 refine ck 12 [2,9] [] [2] [] [.hp 2 0 [] 4 0 0,B ((c_3.Op == 2))] [some ⟨0,4,[.agg [I (c_3.Op),str (c_3.Name),I (c_3.Day),.isl false ((c_3.Parts).map encI_Condition)]]⟩] 82 (by kernel_rfl) ?_
 obtain ⟨y3,hy3,hy31,hy32⟩:=bJ h
 have j3 : ∀ u3,y3=.inr u3→Run (Ffe_E slf_Ffe) 1 (Ffe_Q slf_Ffe (c_3,list_4) r) (.code (cR (cR Ffe_c)) :: []) (sO 27 [(1,.hs 2 0 [] 1 0 ((u3).map str).length),(2,.hp 3 0 [] 4 0 0)] [none,some ⟨0,1,(u3).map str⟩,some ⟨0,4,[.agg [I (c_3.Op),str (c_3.Name),I (c_3.Day),.isl false ((c_3.Parts).map encI_Condition)]]⟩] 4):=by
   intro u3 hu
   replace h:=hy32 u3 hu
   refine cq 5 [16] [.isl false ((c_3.Parts).map encI_Condition)] 36 ?_
   refine oq 52 (I ((len c_3.Parts))) rfl (e_len rfl rfl rfl (l_isl rfl)) ?_
   refine cq 3 [18] [I (0)] 68 ?_
   obtain ⟨y7,hy7,hy71,hy72⟩:=bJ h
   refine s_loop rfl ?_
   refine rg [1,16,17,18] [69,2] (Ffe_la_run slf_Ffe c_3 list_4 rfl (0,u3) _ hy7 (fun r' e st hq=>by rw [hy71 r' e] at hq; exact hq) fun u7 hu=>?_)
   replace h:=hy72 u7 hu
   refine cq 5 [4] [.hs 2 0 [] 1 0 ((u7).map str).length] 35 ?_
   obtain rfl:=Option.some.inj h
   exact s_ret rfl ⟨_,fin (vs:=[.hs 2 0 [] 1 0 ((u7).map str).length]) rfl (absE (abs1 rfl (abs_hs rfl rfl)) (absEN)) rfl (ou_f (ou_1 rfl (oc_no rfl) (ou_n))),kl_d (kl_n)⟩
 have r3 : ∀ r',y3=.inl r'→∀ st,Ffe_Q slf_Ffe (c_3,list_4) r' st→(Ffe_Q slf_Ffe (c_3,list_4) r) st:=fun r' e st hq=>by rw [hy31 r' e] at hq; exact hq
 replace h:=hy3
 refine sq h (fun h=>?_) (fun h=>?_)
 · refine cq 4 [10,12] [.hs 1 0 [] 1 0 ((list_4).map str).length,str (c_3.Name)] 130 ?_
   refine oq 146 (.hs 130 0 [] 1 0 1) rfl (e_buildSlice rfl (bs_mk (f:=I) (xs:=[]) (z:=str ([])) (es:=[str (c_3.Name)]) (ws:=[str (c_3.Name)]) rfl rfl rfl (by decide) rfl (abs_each_plain rfl) rfl)) ?_
   obtain ⟨a8,ha8,h⟩:=bS h
   refine oq 162 (.hs 146 0 [] 1 0 ((a8).map str).length) rfl (e_append rfl rfl rfl rfl rfl (ap_hsM (path:=[]) (f:=str) (xs:=list_4) (ys:=[c_3.Name]) rfl rfl (take_hs rfl rfl rfl) rfl rfl rfl (ra_n) rfl (by decide) str_cells ha8 rfl (to_n))) ?_
   refine cq 2 [1] [.hs 146 0 [] 1 0 ((a8).map str).length] 178 ?_
   exact rg [1,2] [179,146,2] (j3 _ (Option.some.inj h).symm :)
 · refine aq 1 ?_
   exact rg [1,2] [83,1,2] (j3 _ (Option.some.inj h).symm :)
theorem Ffe_good {G : Go.Ln.Ground} : Good Tryz.prog G 134 Ffe_ent:=good_rec fun slf_Ffe g_Ffe=>good_T (fnOf_good (gl_c g_Ffe (gl_n))) agree_mk (Checked.mixed Tryz.checked) Tryz.func134 (n:=2) (m:=1) ⟨rfl,rfl,by decide⟩ (fun _=>⟨rfl,rfl⟩) (fun a r h=>Ffe_run slf_Ffe a.1 a.2 r h)
def xSortS_L_ren : Shelf.Ren:=⟨fun | 190=>162 | 125=>175 | 258=>174 | 128=>195 | 129=>196 | 302=>186 | 303=>187 | 304=>188 | 305=>189 | 306=>190 | 307=>191 | 308=>192 | 309=>193 | 310=>194 | 333=>205 | 329=>206 | 330=>207 | 334=>208 | 335=>209 | 336=>210 | 344=>222 | n=>n,fun | 31=>22 | 9=>9 | 3=>3 | 46=>165 | 0=>0 | 51=>193 | 53=>96 | 4=>4 | 183=>187 | 182=>186 | 131=>29 | 5=>5 | 218=>206 | 222=>210 | 228=>221 | 229=>222 | n=>n,fun | n=>n⟩
theorem xSortS_L : Go.Proofs.Lays.n190 Tryz.prog xSortS_L_ren where
  mixed:=by kernel_rfl
  f125:=Tryz.func175.trans (congrArg some (by kernel_rfl))
  f128:=Tryz.func195.trans (congrArg some (by kernel_rfl))
  f129:=Tryz.func196.trans (congrArg some (by kernel_rfl))
  f190:=Tryz.func162.trans (congrArg some (by kernel_rfl))
  f258:=Tryz.func174.trans (congrArg some (by kernel_rfl))
  f302:=Tryz.func186.trans (congrArg some (by kernel_rfl))
  f303:=Tryz.func187.trans (congrArg some (by kernel_rfl))
  f304:=Tryz.func188.trans (congrArg some (by kernel_rfl))
  f305:=Tryz.func189.trans (congrArg some (by kernel_rfl))
  f306:=Tryz.func190.trans (congrArg some (by kernel_rfl))
  f307:=Tryz.func191.trans (congrArg some (by kernel_rfl))
  f308:=Tryz.func192.trans (congrArg some (by kernel_rfl))
  f309:=Tryz.func193.trans (congrArg some (by kernel_rfl))
  f310:=Tryz.func194.trans (congrArg some (by kernel_rfl))
  f329:=Tryz.func206.trans (congrArg some (by kernel_rfl))
  f330:=Tryz.func207.trans (congrArg some (by kernel_rfl))
  f333:=Tryz.func205.trans (congrArg some (by kernel_rfl))
  f334:=Tryz.func208.trans (congrArg some (by kernel_rfl))
  f335:=Tryz.func209.trans (congrArg some (by kernel_rfl))
  f336:=Tryz.func210.trans (congrArg some (by kernel_rfl))
  f344:=Tryz.func222.trans (congrArg some (by kernel_rfl))
  t0:=Tryz.underlying0
  a0:=Tryz.isAgg0
  z0:=Tryz.sizeOf0
  v0:=Tryz.zeroValue0
  t3:=Tryz.underlying3
  a3:=Tryz.isAgg3
  z3:=Tryz.sizeOf3
  v3:=Tryz.zeroValue3
  t4:=Tryz.underlying4
  a4:=Tryz.isAgg4
  z4:=Tryz.sizeOf4
  v4:=Tryz.zeroValue4
  t5:=Tryz.underlying5
  a5:=Tryz.isAgg5
  z5:=Tryz.sizeOf5
  v5:=Tryz.zeroValue5
  t9:=Tryz.underlying9
  a9:=Tryz.isAgg9
  z9:=Tryz.sizeOf9
  v9:=Tryz.zeroValue9
  t31:=Tryz.underlying22
  a31:=Tryz.isAgg22
  z31:=Tryz.sizeOf22
  v31:=Tryz.zeroValue22
  t46:=Tryz.underlying165
  a46:=Tryz.isAgg165
  z46:=Tryz.sizeOf165
  v46:=Tryz.zeroValue165
  t51:=Tryz.underlying193
  a51:=Tryz.isAgg193
  z51:=Tryz.sizeOf193
  v51:=Tryz.zeroValue193
  t53:=Tryz.underlying96
  a53:=Tryz.isAgg96
  z53:=Tryz.sizeOf96
  v53:=Tryz.zeroValue96
  t131:=Tryz.underlying29
  a131:=Tryz.isAgg29
  z131:=Tryz.sizeOf29
  v131:=Tryz.zeroValue29
  t182:=Tryz.underlying186
  a182:=Tryz.isAgg186
  z182:=Tryz.sizeOf186
  v182:=Tryz.zeroValue186
  t183:=Tryz.underlying187
  a183:=Tryz.isAgg187
  z183:=Tryz.sizeOf187
  v183:=Tryz.zeroValue187
  t218:=Tryz.underlying206
  a218:=Tryz.isAgg206
  z218:=Tryz.sizeOf206
  v218:=Tryz.zeroValue206
  t222:=Tryz.underlying210
  a222:=Tryz.isAgg210
  z222:=Tryz.sizeOf210
  v222:=Tryz.zeroValue210
  t228:=Tryz.underlying221
  a228:=Tryz.isAgg221
  z228:=Tryz.sizeOf221
  v228:=Tryz.zeroValue221
  t229:=Tryz.underlying222
  a229:=Tryz.isAgg222
  z229:=Tryz.sizeOf222
  v229:=Tryz.zeroValue222
noncomputable def xSortS_ent : Ent:=entT [true] (oA (usE 1 str)) (fun r=>(.tup [],[.usl 1 (r.map str)])) xSortS
theorem xSortS_F {l : List Str} {r} (h : xSortS l=some r) : xSortS_ent.F [.usl 1 (l.map str)]=some (.tup [],[.usl 1 (r.map str)]):=entT_F (ea:=oA (usE 1 str)) (oA_inj (usl_inj str_inj)) h
theorem xSortS_good {G : Go.Ln.Ground} : Good Tryz.prog G 162 xSortS_ent:=good_sortS xSortS_L
def Ffbv_A : ((List Str))→List V:=oA (usE 1 str)
def Ffbv_R (r : (List Str)) : V × List V:=(.usl 1 ((r).map str),[.dead])
noncomputable def Ffbv_ent : Ent:=entT [true] Ffbv_A Ffbv_R fun x=>Ffbv x
theorem Ffbv_F {s_2 : List Str} {r} (h : Ffbv s_2=some r) : (Ffbv_ent).F (Ffbv_A s_2)=some (Ffbv_R r):=entT_F (oA_inj (usl_inj str_inj)) h
noncomputable def Ffbv_c : Code:=bodyOf Tryz.f163
noncomputable abbrev Ffbv_ka : Code:=cL (cL (cR (cL (cR (cL (cR (cL (cL (cR (cL (cL (cR (cL (cR (cR Ffbv_c)))))))))))))))
noncomputable def Ffbv_E : Env:=mkE Tryz.prog []
def Ffbv_Q (x : (List Str)) (r : (List Str)) : St→Prop:=QF Ffbv_E Tryz.f163 [true] (Ffbv_A x) (Ffbv_R r)
theorem Ffbv_lb_run (s_2 : List Str) (x2 : Int) {Q : St→Prop} {K : List It} (hK : noD K=true) : ∀ (x6 : Int × Int × (List Str)) (y : ((List Str)) ⊕ (Int × (List Str))),Ffbv_lb s_2 x2 x6=some y→(∀ r',y=.inl r'→∀ st,Ffbv_Q s_2 r' st→Q st)→(∀ u : Int × (List Str),y=.inr u→Run Ffbv_E 1 Q K (sO 61 [(0,.hs 2 0 [] 1 0 ((u.2).map str).length),(3,I (u.1))] [none,some ⟨0,1,(u.2).map str⟩] 3))→Run Ffbv_E 1 Q (.code Ffbv_ka :: .lp Ffbv_ka :: .blk 2 :: K) (sO 61 [(0,.hs 2 0 [] 1 0 ((x6.2.2).map str).length),(3,I (x6.1)),(4,.hs 2 0 [] 1 (0 + Int.toNat (x2)) (Int.toNat (len s_2) - Int.toNat (x2))),(5,I (x6.2.1))] [none,some ⟨0,1,(x6.2.2).map str⟩] 3):=by
 refine fix_indP (Ffbv_lb_fin s_2 x2) ?_
 intro self ih x6 y h hr hn
 unfold Ffbv_lb_F at h
 refine cq 8 [32] [B ((decide (x6.2.1 < (((Int.toNat (len s_2) - Int.toNat (x2)) : Nat) : Int))))] 67 ?_
 refine sq h (fun h=>?_) (fun h=>?_)
 · refine aq 1 ?_
   refine aq 3 ?_
   refine s_draw [0,0,3,7,0,0,32,112,240,511] rfl (by decide +kernel) ?_
   refine dk 2 [36,35] [I (x6.2.1),.hs 2 0 [] 1 (0 + Int.toNat (x2)) (Int.toNat (len s_2) - Int.toNat (x2))] ?_
   obtain ⟨e7,he7,h⟩:=bS h
   refine dq [2] [] (.hp 2 0 [] 1 ((0 + Int.toNat (x2)) + Int.toNat (x6.2.1)) 0) rfl (e_indexAddr rfl rfl rfl (ix_pt (xs:=x6.2.2) rfl rfl he7)) ?_
   refine dq [2] [] (str (e7)) rfl (e_ld rfl (ld_at (path:=[]) rfl rfl rfl (ra_n) (get_pt (f:=str) (xs:=x6.2.2) he7) rfl rfl rfl)) ?_
   refine dk 3 [41,40,39] [I ((w64 (x6.2.1 - 1))),I (x6.2.1),.hs 2 0 [] 1 (0 + Int.toNat (x2)) (Int.toNat (len s_2) - Int.toNat (x2))] ?_
   obtain ⟨e8,he8,h⟩:=bS h
   refine dq [2] [] (.hp 2 0 [] 1 ((0 + Int.toNat (x2)) + Int.toNat ((w64 (x6.2.1 - 1)))) 0) rfl (e_indexAddr rfl rfl rfl (ix_pt (xs:=x6.2.2) rfl rfl he8)) ?_
   refine dq [2] [] (str (e8)) rfl (e_ld rfl (ld_at (path:=[]) rfl rfl rfl (ra_n) (get_pt (f:=str) (xs:=x6.2.2) he8) rfl rfl rfl)) ?_
   refine dk 1 [44] [B ((!(e7 == e8)))] ?_
   refine de 227 rfl rfl ?_
   obtain ⟨y9,hy9,hy91,hy92⟩:=bL h
   have j9 : ∀ u9,y9=.inr u9→Run Ffbv_E 1 Q (.blk 3 :: .code (cR (cR Ffbv_ka)) :: .lp Ffbv_ka :: .blk 2 :: K) (sO 61 [(0,.hs 2 0 [] 1 0 ((u9.2).map str).length),(3,I (u9.1)),(4,.hs 2 0 [] 1 (0 + Int.toNat (x2)) (Int.toNat (len s_2) - Int.toNat (x2))),(5,I (x6.2.1))] [none,some ⟨0,1,(u9.2).map str⟩] 3):=by
     intro u9 hu
     replace h:=hy92 u9 hu
     refine cq 6 [5] [I ((w64 (x6.2.1 + 1)))] 51 ?_
     refine s_lp ?_
     exact rg [0,3,4,5] [52,2] (ih _ _ h hr hn :)
   have r9 : ∀ r',y9=.inl r'→∀ st,Ffbv_Q s_2 r' st→Q st:=fun r' e st hq=>hr r' (hy91 r' e) st hq
   replace h:=hy9
   refine sq h (fun h=>?_) (fun h=>?_)
   · refine cq 6 [45,46,47,48] [.hs 2 0 [] 1 0 ((x6.2.2).map str).length,I (x6.1),.hs 2 0 [] 1 (0 + Int.toNat (x2)) (Int.toNat (len s_2) - Int.toNat (x2)),I (x6.2.1)] 291 ?_
     obtain ⟨e10,he10,h⟩:=bS h
     refine oq 307 (.hp 2 0 [] 1 ((0 + Int.toNat (x2)) + Int.toNat (x6.2.1)) 0) rfl (e_indexAddr rfl rfl rfl (ix_pt (xs:=x6.2.2) rfl rfl he10)) ?_
     refine oq 323 (str (e10)) rfl (e_ld rfl (ld_at (path:=[]) rfl rfl rfl (ra_n) (get_pt (f:=str) (xs:=x6.2.2) he10) rfl rfl rfl)) ?_
     obtain ⟨e11,he11,h⟩:=bS h
     refine oq 339 (.hp 2 0 [] 1 (0 + Int.toNat (x6.1)) 0) rfl (e_indexAddr rfl rfl rfl (ix_hsM (f:=str) (xs:=x6.2.2) rfl rfl rfl he11)) ?_
     refine o0 355 rfl rfl (e_st rfl rfl (st_at (path:=[]) (pl:=true) (e':=str (e10)) (es2':=((setI x6.2.2 x6.1 e10)).map str) rfl (absorb_plain rfl) rfl rfl rfl (ra_n) (get_map (f:=str) (xs:=x6.2.2) he11) rfl rfl rfl (set_map (f:=str) (xs:=x6.2.2) (y:=e10)) (sr_n) 0 rfl)) ?_
     try rw [← len_setM (f:=str) (xs:=x6.2.2) (i:=x6.1) (z:=e10)]
     refine cq 6 [3] [I ((w64 (x6.1 + 1)))] 403 ?_
     exact rg [0,3,4,5] [404,2] (j9 _ (Option.some.inj h).symm :)
   · refine aq 1 ?_
     exact rg [0,3,4,5] [228,2] (j9 _ (Option.some.inj h).symm :)
 · refine aq 1 ?_
   exact rg [0,3] [68,2] (hn _ (Option.some.inj h).symm :) (hk:=hK)
theorem Ffbv_la_run (s_2 : List Str)  {Q : St→Prop} {K : List It} (hK : noD K=true) : ∀ (x2 : Int) (y : ((List Str)) ⊕ ((List Str))),Ffbv_la s_2 x2=some y→(∀ r',y=.inl r'→∀ st,Ffbv_Q s_2 r' st→Q st)→(∀ u : (List Str),y=.inr u→Run Ffbv_E 1 Q K (sO 61 [(0,.hs 2 0 [] 1 0 ((u).map str).length)] [none,some ⟨0,1,(u).map str⟩] 3))→Run Ffbv_E 1 Q (.code (cL (cL (cR (cL (cR (cR Ffbv_c)))))) :: .lp (cL (cL (cR (cL (cR (cR Ffbv_c)))))) :: .blk 0 :: K) (sO 61 [(0,.hs 2 0 [] 1 0 ((s_2).map str).length),(3,I (x2))] [none,some ⟨0,1,(s_2).map str⟩] 3):=by
 refine fix_indP (Ffbv_la_fin s_2) ?_
 intro self ih x2 y h hr hn
 unfold Ffbv_la_F at h
 refine cq 5 [10,11] [I (x2),.hs 2 0 [] 1 0 ((s_2).map str).length] 35 ?_
 refine oq 51 (I ((len s_2))) rfl (e_len rfl rfl rfl (l_hsM (f:=str) (xs:=s_2) rfl rfl)) ?_
 refine cq 2 [13] [B ((decide (x2 < (len s_2))))] 67 ?_
 refine sq h (fun h=>?_) (fun h=>?_)
 · refine aq 1 ?_
   refine aq 3 ?_
   refine s_draw [0,0,3,7,0,0,32,112,240,511] rfl (by decide +kernel) ?_
   refine dk 2 [17,16] [I (x2),.hs 2 0 [] 1 0 ((s_2).map str).length] ?_
   obtain ⟨e3,he3,h⟩:=bS h
   refine dq [2] [] (.hp 2 0 [] 1 (0 + Int.toNat (x2)) 0) rfl (e_indexAddr rfl rfl rfl (ix_hsM (f:=str) (xs:=s_2) rfl rfl rfl he3)) ?_
   refine dq [2] [] (str (e3)) rfl (e_ld rfl (ld_at (path:=[]) rfl rfl rfl (ra_n) (get_map (f:=str) (xs:=s_2) he3) rfl rfl rfl)) ?_
   refine dk 3 [22,21,20] [I ((w64 (x2 - 1))),I (x2),.hs 2 0 [] 1 0 ((s_2).map str).length] ?_
   obtain ⟨e4,he4,h⟩:=bS h
   refine dq [2] [] (.hp 2 0 [] 1 (0 + Int.toNat ((w64 (x2 - 1)))) 0) rfl (e_indexAddr rfl rfl rfl (ix_hsM (f:=str) (xs:=s_2) rfl rfl rfl he4)) ?_
   refine dq [2] [] (str (e4)) rfl (e_ld rfl (ld_at (path:=[]) rfl rfl rfl (ra_n) (get_map (f:=str) (xs:=s_2) he4) rfl rfl rfl)) ?_
   refine dk 1 [25] [B ((e3 == e4))] ?_
   refine de 227 rfl rfl ?_
   refine sq h (fun h=>?_) (fun h=>?_)
   · refine cq 4 [26,27] [.hs 2 0 [] 1 0 ((s_2).map str).length,I (x2)] 259 ?_
     obtain ⟨s5,hs5,h⟩:=bS h
     refine oq 275 (.hs 2 0 [] 1 (0 + Int.toNat (x2)) (Int.toNat (len s_2) - Int.toNat (x2))) rfl (e_slice rfl rfl rfl rfl (sl_hsM (f:=str) (xs:=s_2) rfl rfl rfl rfl (bd_n rfl) hs5)) ?_
     refine cq 8 [4,5] [.hs 2 0 [] 1 (0 + Int.toNat (x2)) (Int.toNat (len s_2) - Int.toNat (x2)),I (1)] 307 ?_
     obtain ⟨y15,hy15,hy151,hy152⟩:=bL h
     refine s_loop rfl ?_
     refine rg [0,3,4,5] [308,2] (Ffbv_lb_run s_2 x2 rfl (x2,1,s_2) _ hy15 (fun r' e st hq=>hr r' (hy151 r' e) st hq) fun u15 hu=>?_)
     replace h:=hy152 u15 hu
     refine cq 4 [54,55] [.hs 2 0 [] 1 0 ((u15.2).map str).length,I (u15.1)] 35 ?_
     obtain ⟨s16,hs16,h⟩:=bS h
     refine oq 51 (.hs 2 0 [] 1 (0 + Int.toNat (u15.1)) (Int.toNat (len u15.2) - Int.toNat (u15.1))) rfl (e_slice rfl rfl rfl rfl (sl_hsM (f:=str) (xs:=u15.2) rfl rfl rfl rfl (bd_n rfl) hs16)) ?_
     obtain ⟨k17,hk17,h⟩:=bS h
     refine o0 67 rfl rfl (e_clear rfl rfl (cl_pt (f:=str) (xs:=u15.2) (z0:=[]) rfl rfl rfl rfl (by decide) str_flat hk17)) ?_
     try rw [show (u15.2.map str).length=(k17.map str).length from clr_len hk17]
     refine cq 5 [57,58] [.hs 2 0 [] 1 0 ((k17).map str).length,I (u15.1)] 99 ?_
     obtain ⟨s18,hs18,h⟩:=bS h
     refine oq 115 (.hs 2 0 [] 1 (0 + Int.toNat (0)) (Int.toNat (u15.1) - Int.toNat (0))) rfl (e_slice rfl rfl rfl rfl (sl_hsM (f:=str) (xs:=k17) rfl rfl rfl rfl rfl hs18)) ?_
     refine cq 2 [2] [.hs 2 0 [] 1 (0 + Int.toNat (0)) (Int.toNat (u15.1) - Int.toNat (0))] 131 ?_
     obtain ⟨p19,hp19,h⟩:=bS h
     exact s_ret rfl (hr _ (Option.some.inj h).symm _ ⟨_,fin (vs:=[.hs 2 0 [] 1 (0 + Int.toNat (0)) (Int.toNat (u15.1) - Int.toNat (0))]) rfl (absE (abs1 rfl (abs_pt (path:=[]) (f:=str) (xs:=k17) rfl rfl (ra_n) hp19 rfl (to_n))) (absEN)) rfl (ou_1 rfl (oc_no rfl) (ou_n)),kl_d (kl_n)⟩)
   · refine aq 1 ?_
     refine cq 6 [3] [I ((w64 (x2 + 1)))] 275 ?_
     refine s_lp ?_
     exact rg [0,3] [276,2] (ih _ _ h hr hn :)
 · refine aq 1 ?_
   exact rg [0] [68,2] (hn _ (Option.some.inj h).symm :) (hk:=hK)
theorem Ffbv_run (s_2 : List Str) (r : (List Str)) (h : Ffbv s_2=some r) : RunF Ffbv_E Tryz.f163 [true] 1 (Ffbv_A s_2) (Ffbv_R r):=by
 show Run _ _ (Ffbv_Q s_2 r) [.code Ffbv_c] _
 refine rin (n:=61) [(0,.hs 1 0 [] 1 0 ((s_2).map str).length)] [(1,some ⟨0,1,(s_2).map str⟩)] 2 (by kernel_rfl) (by kernel_rfl) (by kernel_rfl) rfl ?_
 unfold Ffbv at h
 refine cq 8 [6] [.hs 1 0 [] 1 0 ((s_2).map str).length] 34 ?_
 refine oq 50 (I ((len s_2))) rfl (e_len rfl rfl rfl (l_hsM (f:=str) (xs:=s_2) rfl rfl)) ?_
 refine cq 2 [8] [B ((decide ((len s_2) < 2)))] 66 ?_
 refine sq h (fun h=>?_) (fun h=>?_)
 · refine cq 5 [2] [.hs 1 0 [] 1 0 ((s_2).map str).length] 98 ?_
   obtain rfl:=Option.some.inj h
   exact s_ret rfl ⟨_,fin (vs:=[.hs 1 0 [] 1 0 ((s_2).map str).length]) rfl (absE (abs1 rfl (abs_hs rfl rfl)) (absEN)) rfl (ou_1 rfl (oc_no rfl) (ou_n)),kl_d (kl_n)⟩
 · refine aq 1 ?_
   refine cq 6 [3] [I (1)] 82 ?_
   obtain ⟨y20,hy20,hy201,hy202⟩:=bJ h
   refine s_loop rfl ?_
   refine rg [0,3] [83,1] (Ffbv_la_run s_2 rfl 1 _ hy20 (fun r' e st hq=>by rw [hy201 r' e] at hq; exact hq) fun u20 hu=>?_)
   replace h:=hy202 u20 hu
   refine cq 5 [2] [.hs 2 0 [] 1 0 ((u20).map str).length] 35 ?_
   obtain rfl:=Option.some.inj h
   exact s_ret rfl ⟨_,fin (vs:=[.hs 2 0 [] 1 0 ((u20).map str).length]) rfl (absE (abs1 rfl (abs_hs rfl rfl)) (absEN)) rfl (ou_1 rfl (oc_no rfl) (ou_n)),kl_d (kl_n)⟩
theorem Ffbv_good {G : Go.Ln.Ground} : Good Tryz.prog G 163 Ffbv_ent:=good_T (fnOf_good (gl_n)) agree_mk (Checked.mixed Tryz.checked) Tryz.func163 (n:=1) (m:=1) ⟨rfl,rfl,by decide⟩ (fun _=>⟨rfl,rfl⟩) (fun a r h=>Ffbv_run a r h)
def Ffo_A : ((List Str))→List V:=oA (usE 1 str)
def Ffo_R (r : (List Str)) : V × List V:=(.usl 1 ((r).map str),[.dead])
noncomputable def Ffo_ent : Ent:=entT [true] Ffo_A Ffo_R fun x=>Ffo x
theorem Ffo_F {list_5 : List Str} {r} (h : Ffo list_5=some r) : (Ffo_ent).F (Ffo_A list_5)=some (Ffo_R r):=entT_F (oA_inj (usl_inj str_inj)) h
noncomputable def Ffo_c : Code:=bodyOf Tryz.f133
noncomputable def Ffo_E : Env:=mkE Tryz.prog [(162,xSortS_ent),(163,Ffbv_ent)]
def Ffo_Q (x : (List Str)) (r : (List Str)) : St→Prop:=QF Ffo_E Tryz.f133 [true] (Ffo_A x) (Ffo_R r)
theorem Ffo_run (list_5 : List Str) (r : (List Str)) (h : Ffo list_5=some r) : RunF Ffo_E Tryz.f133 [true] 1 (Ffo_A list_5) (Ffo_R r):=by
 show Run _ _ (Ffo_Q list_5 r) [.code Ffo_c] _
 refine rin (n:=7) [(0,.hs 1 0 [] 1 0 ((list_5).map str).length)] [(1,some ⟨0,1,(list_5).map str⟩)] 2 (by kernel_rfl) (by kernel_rfl) (by kernel_rfl) rfl ?_
 unfold Ffo at h
 refine cq 7 [3] [.hs 1 0 [] 1 0 ((list_5).map str).length] 34 ?_
 obtain ⟨r2,hr2,h⟩:=bS h
 obtain ⟨g3,h⟩:=gG h
 refine oq 50 (.tup []) rfl (e_callV rfl rfl (call_P rfl rfl rfl (avO (hd1 rfl (hd_hs (path:=[]) rfl rfl (ra_n) rfl)) (avN)) (xSortS_F hr2) (.inr rfl) (bl_c rfl rfl rfl rfl (bl_n)) rfl rfl rfl)) ?_
 try rw [len_eqM (f:=str) (xs:=list_5) (ys:=r2) g3]
 refine cq 4 [5] [.hs 1 0 [] 1 0 ((r2).map str).length] 66 ?_
 obtain ⟨r4,hr4,h⟩:=bS h
 refine oq 82 (.hs 66 0 [] 1 0 ((r4).map str).length) rfl (e_callV rfl rfl (call_P rfl rfl rfl (avO (hd1 rfl (hd_hs (path:=[]) rfl rfl (ra_n) rfl)) (avN)) (Ffbv_F hr4) (.inr rfl) (bl_c rfl rfl rfl bk_dead (bl_n)) rfl rfl rfl)) ?_
 refine cq 2 [2] [.hs 66 0 [] 1 0 ((r4).map str).length] 98 ?_
 obtain rfl:=Option.some.inj h
 exact s_ret rfl ⟨_,fin (vs:=[.hs 66 0 [] 1 0 ((r4).map str).length]) rfl (absE (abs1 rfl (abs_hs rfl rfl)) (absEN)) rfl (ou_1 rfl (oc_no rfl) (ou_n)),kl_d (kl_n)⟩
theorem Ffo_good {G : Go.Ln.Ground} : Good Tryz.prog G 133 Ffo_ent:=good_T (fnOf_good (gl_c xSortS_good (gl_c Ffbv_good (gl_n)))) agree_mk (Checked.mixed Tryz.checked) Tryz.func133 (n:=1) (m:=1) ⟨rfl,rfl,by decide⟩ (fun _=>⟨rfl,rfl⟩) (fun a r h=>Ffo_run a r h)
def Ffj_A : Contract→List V:=oA encI_Contract
def Ffj_R (r : (List Str)) : V × List V:=(.usl 1 ((r).map str),[])
noncomputable def Ffj_ent : Ent:=entT [false] Ffj_A Ffj_R fun x=>Ffj x
theorem Ffj_F {c_1 : Contract} {r} (h : Ffj c_1=some r) : (Ffj_ent).F (Ffj_A c_1)=some (Ffj_R r):=entT_F (oA_inj encI_Contract_inj) h
noncomputable def Ffj_c : Code:=bodyOf Tryz.f105
noncomputable def Ffj_E : Env:=mkE Tryz.prog [(134,Ffe_ent),(133,Ffo_ent)]
def Ffj_Q (x : Contract) (r : (List Str)) : St→Prop:=QF Ffj_E Tryz.f105 [false] (Ffj_A x) (Ffj_R r)
theorem Ffj_la_run (c_1 : Contract)  {Q : St→Prop} {K : List It} (hK : noD K=true) : ∀ (x2 : Int × (List Str)) (y : ((List Str)) ⊕ ((List Str))),Ffj_la c_1 x2=some y→(∀ r',y=.inl r'→∀ st,Ffj_Q c_1 r' st→Q st)→(∀ u : (List Str),y=.inr u→Run Ffj_E 0 Q K (sT 25 [(3,.hs 1 0 [] 1 0 ((u).map str).length)] [⟨0,1,(u).map str⟩] 2))→Run Ffj_E 0 Q (.code (cL (cL (cR (cL (cR (cR Ffj_c)))))) :: .lp (cL (cL (cR (cL (cR (cR Ffj_c)))))) :: .blk 0 :: K) (sT 25 [(3,.hs 1 0 [] 1 0 ((x2.2).map str).length),(8,.isl false ((c_1.Clauses).map encI_Clause)),(9,I ((len c_1.Clauses))),(10,I (x2.1))] [⟨0,1,(x2.2).map str⟩] 2):=by
 refine fix_indP (Ffj_la_fin c_1) ?_
 intro self ih x2 y h hr hn
 unfold Ffj_la_F at h
 refine cq 5 [11] [B ((decide (x2.1 < (len c_1.Clauses))))] 18 ?_
 refine sq h (fun h=>?_) (fun h=>?_)
 · refine aq 1 ?_
   refine aq 4 ?_
   obtain ⟨e3,he3,h⟩:=bS h
   refine oq 34 (.iptr (.agg [str (e3.Id),I (e3.Kind),I (e3.Party),str (e3.Action),I (e3.Other),I (e3.Amount),I (e3.When.Op),str (e3.When.Name),I (e3.When.Day),.isl false ((e3.When.Parts).map encI_Condition),I (e3.Within),str (e3.Repair)]) 0) rfl (e_indexAddr rfl rfl rfl (ix_islE rfl rfl rfl rfl he3)) ?_
   refine ck 2 [5,13] [] [50] [] [.hp 50 0 [] 12 0 0,.agg [str (e3.Id),I (e3.Kind),I (e3.Party),str (e3.Action),I (e3.Other),I (e3.Amount),I (e3.When.Op),str (e3.When.Name),I (e3.When.Day),.isl false ((e3.When.Parts).map encI_Condition),I (e3.Within),str (e3.Repair)]] [some ⟨0,12,[.agg [str ([]),I (0),I (0),str ([]),I (0),I (0),I (0),str ([]),I (0),.isl true [],I (0),str ([])]]⟩] 66 (by kernel_rfl) ?_
   refine run_row 50 [.agg [str ([]),I (0),I (0),str ([]),I (0),I (0),I (0),str ([]),I (0),.usl 4 (([]).map encO_Condition),I (0),str ([])]] rfl rfl (cvs_c (cv_agg (cvs_c (.refl _) (cvs_c (.refl _) (cvs_c (.refl _) (cvs_c (.refl _) (cvs_c (.refl _) (cvs_c (.refl _) (cvs_c (.refl _) (cvs_c (.refl _) (cvs_c (.refl _) (cvs_c (.nil _) (cvs_c (.refl _) (cvs_c (.refl _) (cvs_n)))))))))))))) cvs_n) ?_
   refine ck 2 [] [] [50] [] [] [some ⟨2,12,[.agg [str (e3.Id),I (e3.Kind),I (e3.Party),str (e3.Action),I (e3.Other),I (e3.Amount),I (e3.When.Op),str (e3.When.Name),I (e3.When.Day),.isl false ((e3.When.Parts).map encI_Condition),I (e3.Within),str (e3.Repair)]]⟩] 82 (by kernel_rfl) ?_
   refine s_draw [0,1,0,0,8,24,60,127,255] rfl (by decide +kernel) ?_
   refine dq [50] [] (.hp 50 0 [] 12 0 6) rfl (e_fieldAddr rfl rfl rfl) ?_
   refine dq [50] [] (.agg [I (e3.When.Op),str (e3.When.Name),I (e3.When.Day),.isl false ((e3.When.Parts).map encI_Condition)]) rfl (e_ld rfl rfl) ?_
   refine dk 1 [16] [.hs 1 0 [] 1 0 ((x2.2).map str).length] ?_
   refine dq [50] [] (.hp 50 0 [] 12 0 3) rfl (e_fieldAddr rfl rfl rfl) ?_
   refine dq [50] [] (str (e3.Action)) rfl (e_ld rfl rfl) ?_
   refine dq [] [] (.hs 162 0 [] 1 0 1) rfl (e_buildSlice rfl (bs_mk (f:=I) (xs:=[]) (z:=str ([])) (es:=[str (e3.Action)]) (ws:=[str (e3.Action)]) rfl rfl rfl (by decide) rfl (abs_each_plain rfl) rfl)) ?_
   obtain ⟨a4,ha4,h⟩:=bS h
   refine dq [1,162] [1] (.hs 178 0 [] 1 0 ((a4).map str).length) rfl (e_append rfl rfl rfl rfl rfl (ap_hsM (path:=[]) (f:=str) (xs:=x2.2) (ys:=[e3.Action]) rfl rfl (take_hs rfl rfl rfl) rfl rfl rfl (ra_n) rfl (by decide) str_cells ha4 rfl (to_n))) ?_ (w_app rfl (aw_hs (path:=[]) (f:=str) (xs:=[e3.Action]) rfl rfl (ra_n) str_flat rfl))
   obtain ⟨r5,hr5,h⟩:=bS h
   refine dq [178] [178] (.hs 194 0 [] 1 0 ((r5).map str).length) rfl (e_callV rfl rfl (call_P rfl rfl rfl (avS (shP rfl) (avO (hd1 rfl (hd_hs (path:=[]) rfl rfl (ra_n) rfl)) (avN))) (Ffe_F hr5) (.inr rfl) (bl_c rfl rfl rfl bk_dead (bl_n)) rfl rfl rfl)) ?_ (w_callO rfl rfl rfl rfl (avS (shP rfl) (avO (hd1 rfl (hd_hs (path:=[]) rfl rfl (ra_n) rfl)) (avN))) (Ffe_F hr5) (.inr rfl) rfl)
   refine dk 1 [3] [.hs 194 0 [] 1 0 ((r5).map str).length] ?_
   refine de 226 rfl rfl ?_
   refine cq 5 [10] [I ((w64 (x2.1 + 1)))] 258 ?_
   refine s_lp ?_
   exact rf [3,8,9,10] [194] (ih _ _ h hr hn :)
 · refine aq 1 ?_
   exact rf [3] [1] (hn _ (Option.some.inj h).symm :) (hk:=hK)
theorem Ffj_run (c_1 : Contract) (r : (List Str)) (h : Ffj c_1=some r) : RunF Ffj_E Tryz.f105 [false] 0 (Ffj_A c_1) (Ffj_R r):=by
 show Run _ _ (Ffj_Q c_1 r) [.code Ffj_c] _
 refine rin (n:=25) [(0,.agg [.isl false ((c_1.Parties).map str),.isl false ((c_1.Clauses).map encI_Clause)])] [] 1 (by kernel_rfl) (by kernel_rfl) (by kernel_rfl) rfl ?_
 unfold Ffj at h
 refine ck 7 [1] [] [1] [] [.hp 1 0 [] 2 0 0] [some ⟨0,2,[.agg [.isl false ((c_1.Parties).map str),.isl false ((c_1.Clauses).map encI_Clause)]]⟩] 33 (by kernel_rfl) ?_
 refine oq 49 (.hs 33 0 [] 1 0 0) rfl (e_buildSlice rfl (bs_mk (f:=I) (xs:=[]) (z:=str ([])) (es:=[]) (ws:=[]) rfl rfl rfl (by decide) rfl (abs_each_plain rfl) rfl)) ?_
 refine cq 7 [3,8] [.hs 33 0 [] 1 0 0,.isl false ((c_1.Clauses).map encI_Clause)] 97 ?_
 refine oq 113 (I ((len c_1.Clauses))) rfl (e_len rfl rfl rfl (l_isl rfl)) ?_
 refine cq 3 [10] [I (0)] 129 ?_
 obtain ⟨y6,hy6,hy61,hy62⟩:=bJ h
 refine s_loop rfl ?_
 refine rf [3,8,9,10] [33] (Ffj_la_run c_1 rfl (0,[]) _ hy6 (fun r' e st hq=>by rw [hy61 r' e] at hq; exact hq) fun u6 hu=>?_)
 replace h:=hy62 u6 hu
 refine cq 3 [23] [.hs 1 0 [] 1 0 ((u6).map str).length] 18 ?_
 obtain ⟨r7,hr7,h⟩:=bS h
 refine oq 34 (.hs 18 0 [] 1 0 ((r7).map str).length) rfl (e_callV rfl rfl (call_P rfl rfl rfl (avO (hd1 rfl (hd_hs (path:=[]) rfl rfl (ra_n) rfl)) (avN)) (Ffo_F hr7) (.inr rfl) (bl_c rfl rfl rfl bk_dead (bl_n)) rfl rfl rfl)) ?_
 refine cq 2 [2] [.hs 18 0 [] 1 0 ((r7).map str).length] 50 ?_
 obtain rfl:=Option.some.inj h
 exact s_ret rfl ⟨_,fin (vs:=[.hs 18 0 [] 1 0 ((r7).map str).length]) rfl (absE (abs1 rfl (abs_hs rfl rfl)) (absEN)) rfl (ou_f (ou_n)),kl_n⟩
theorem Ffj_good {G : Go.Ln.Ground} : Good Tryz.prog G 105 Ffj_ent:=good_T (fnOf_good (gl_c Ffe_good (gl_c Ffo_good (gl_n)))) agree_mk (Checked.mixed Tryz.checked) Tryz.func105 (n:=1) (m:=0) ⟨rfl,rfl,by decide⟩ (fun _=>⟨rfl,rfl⟩) (fun a r h=>Ffj_run a r h)
def Ffc_A : Contract→List V:=oA encI_Contract
def Ffc_R (r : Bool) : V × List V:=(B (r),[])
noncomputable def Ffc_ent : Ent:=entT [false] Ffc_A Ffc_R fun x=>Ffc x
theorem Ffc_F {c_1 : Contract} {r} (h : Ffc c_1=some r) : (Ffc_ent).F (Ffc_A c_1)=some (Ffc_R r):=entT_F (oA_inj encI_Contract_inj) h
noncomputable def Ffc_c : Code:=bodyOf Tryz.f60
noncomputable def Ffc_E : Env:=mkE Tryz.prog [(103,Fff_ent),(104,Ffl_ent),(105,Ffj_ent),(84,Ffp_ent)]
def Ffc_Q (x : Contract) (r : Bool) : St→Prop:=QF Ffc_E Tryz.f60 [false] (Ffc_A x) (Ffc_R r)
theorem Ffc_la_run (c_1 : Contract)  {Q : St→Prop} {K : List It} (hK : noD K=true) : ∀ (x4 : Int) (y : Bool ⊕ Unit),Ffc_la c_1 x4=some y→(∀ r',y=.inl r'→∀ st,Ffc_Q c_1 r' st→Q st)→(∀ u : Unit,y=.inr u→Run Ffc_E 0 Q K (sT 30 [(1,.hp 1 0 [] 2 0 0)] [⟨0,2,[.agg [.isl false ((c_1.Parties).map str),.isl false ((c_1.Clauses).map encI_Clause)]]⟩] 2))→Run Ffc_E 0 Q (.code (cL (cL (cR (cL (cR (cR Ffc_c)))))) :: .lp (cL (cL (cR (cL (cR (cR Ffc_c)))))) :: .blk 0 :: K) (sT 30 [(1,.hp 1 0 [] 2 0 0),(17,I ((len c_1.Clauses))),(18,I (x4))] [⟨0,2,[.agg [.isl false ((c_1.Parties).map str),.isl false ((c_1.Clauses).map encI_Clause)]]⟩] 2):=by
 refine fix_indP (Ffc_la_fin c_1) ?_
 intro self ih x4 y h hr hn
 unfold Ffc_la_F at h
 refine cq 5 [19] [B ((decide (x4 < (len c_1.Clauses))))] 18 ?_
 refine sq h (fun h=>?_) (fun h=>?_)
 · refine aq 1 ?_
   refine cq 11 [21,22] [.agg [.isl false ((c_1.Parties).map str),.isl false ((c_1.Clauses).map encI_Clause)],I (x4)] 82 ?_
   obtain ⟨r5,hr5,h⟩:=bS h
   refine oq 98 (B (r5)) rfl (e_callV rfl rfl (call_P rfl rfl rfl (avS (shP rfl) (avS (shP rfl) (avN))) (Ffl_F hr5) (.inr rfl) (bl_n) rfl rfl rfl)) ?_
   refine cq 2 [24] [B ((!r5))] 114 ?_
   refine sq h (fun h=>?_) (fun h=>?_)
   · refine cq 4 [2] [B (false)] 130 ?_
     exact s_ret rfl (hr _ (Option.some.inj h).symm _ ⟨_,fin (vs:=[B (false)]) rfl (absE (absorb_plain rfl) (absEN)) rfl (ou_f (ou_n)),kl_n⟩)
   · refine aq 1 ?_
     refine cq 5 [18] [I ((w64 (x4 + 1)))] 146 ?_
     refine s_lp ?_
     exact rf [1,17,18] [1] (ih _ _ h hr hn :)
 · refine aq 1 ?_
   exact rf [1] [1] (hn _ (Option.some.inj h).symm :) (hk:=hK)
theorem Ffc_run (c_1 : Contract) (r : Bool) (h : Ffc c_1=some r) : RunF Ffc_E Tryz.f60 [false] 0 (Ffc_A c_1) (Ffc_R r):=by
 show Run _ _ (Ffc_Q c_1 r) [.code Ffc_c] _
 refine rin (n:=30) [(0,.agg [.isl false ((c_1.Parties).map str),.isl false ((c_1.Clauses).map encI_Clause)])] [] 1 (by kernel_rfl) (by kernel_rfl) (by kernel_rfl) rfl ?_
 unfold Ffc at h
 refine ck 10 [1,5] [] [1] [] [.hp 1 0 [] 2 0 0,.isl false ((c_1.Parties).map str)] [some ⟨0,2,[.agg [.isl false ((c_1.Parties).map str),.isl false ((c_1.Clauses).map encI_Clause)]]⟩] 65 (by kernel_rfl) ?_
 obtain ⟨r2,hr2,h⟩:=bS h
 refine oq 81 (B (r2)) rfl (e_callV rfl rfl (call_P rfl rfl rfl (avS (shP rfl) (avN)) (Fff_F hr2) (.inr rfl) (bl_n) rfl rfl rfl)) ?_
 refine cq 2 [8] [B ((!r2))] 113 ?_
 obtain ⟨y3,hy3,hy31,hy32⟩:=bJ h
 have j3 : ∀ u3,y3=.inr u3→Run Ffc_E 0 (Ffc_Q c_1 r) (.code (cR (cL (cR Ffc_c))) :: .code (cR (cR Ffc_c)) :: []) (sT 30 [(1,.hp 1 0 [] 2 0 0),(14,B (u3))] [⟨0,2,[.agg [.isl false ((c_1.Parties).map str),.isl false ((c_1.Clauses).map encI_Clause)]]⟩] 2):=by
   intro u3 hu
   replace h:=hy32 u3 hu
   refine sq h (fun h=>?_) (fun h=>?_)
   · refine cq 4 [2] [B (false)] 18 ?_
     obtain rfl:=Option.some.inj h
     exact s_ret rfl ⟨_,fin (vs:=[B (false)]) rfl (absE (absorb_plain rfl) (absEN)) rfl (ou_f (ou_n)),kl_n⟩
   · refine aq 1 ?_
     refine cq 5 [16] [.isl false ((c_1.Clauses).map encI_Clause)] 34 ?_
     refine oq 50 (I ((len c_1.Clauses))) rfl (e_len rfl rfl rfl (l_isl rfl)) ?_
     refine cq 3 [18] [I (0)] 66 ?_
     obtain ⟨y6,hy6,hy61,hy62⟩:=bJ h
     refine s_loop rfl ?_
     refine rf [1,17,18] [1] (Ffc_la_run c_1 rfl 0 _ hy6 (fun r' e st hq=>by rw [hy61 r' e] at hq; exact hq) fun u6 hu=>?_)
     replace h:=hy62 u6 hu
     refine cq 3 [26] [.agg [.isl false ((c_1.Parties).map str),.isl false ((c_1.Clauses).map encI_Clause)]] 18 ?_
     obtain ⟨r7,hr7,h⟩:=bS h
     refine oq 34 (.hs 18 0 [] 1 0 ((r7).map str).length) rfl (e_callV rfl rfl (call_P rfl rfl rfl (avS (shP rfl) (avN)) (Ffj_F hr7) (.inr rfl) (bl_n) rfl rfl rfl)) ?_
     refine oq 50 (I ((len r7))) rfl (e_len rfl rfl rfl (l_hsM (f:=str) (xs:=r7) rfl rfl)) ?_
     refine cq 3 [2] [B ((decide ((len r7) ≤ 16)))] 82 ?_
     obtain rfl:=Option.some.inj h
     exact s_ret rfl ⟨_,fin (vs:=[B ((decide ((len r7) ≤ 16)))]) rfl (absE (absorb_plain rfl) (absEN)) rfl (ou_f (ou_n)),kl_n⟩
 have r3 : ∀ r',y3=.inl r'→∀ st,Ffc_Q c_1 r' st→(Ffc_Q c_1 r) st:=fun r' e st hq=>by rw [hy31 r' e] at hq; exact hq
 replace h:=hy3
 refine sp 8 h rfl (fun h=>?_) (fun h=>?_)
 · refine cq 7 [14] [B (true)] 209 ?_
   exact rf [1,14] [1] (j3 _ (Option.some.inj h).symm :)
 · refine cq 2 [10] [.isl false ((c_1.Clauses).map encI_Clause)] 145 ?_
   refine oy 161 (I ((len c_1.Clauses))) rfl (e_len rfl rfl rfl (l_isl rfl)) ?_
   obtain ⟨r8,hr8,h⟩:=bS h
   refine oy 177 (B (r8)) rfl (e_callV rfl rfl (call_P rfl rfl rfl (avS (shP rfl) (avS (shP rfl) (avS (shP rfl) (avN)))) (Ffp_F hr8) (.inr rfl) (bl_n) rfl rfl rfl)) ?_
   refine cq 3 [14] [B ((!r8))] 209 ?_
   exact rf [1,14] [1] (j3 _ (Option.some.inj h).symm :)
theorem Ffc_good {G : Go.Ln.Ground} : Good Tryz.prog G 60 Ffc_ent:=good_T (fnOf_good (gl_c Fff_good (gl_c Ffl_good (gl_c Ffj_good (gl_c Ffp_good (gl_n)))))) agree_mk (Checked.mixed Tryz.checked) Tryz.func60 (n:=1) (m:=0) ⟨rfl,rfl,by decide⟩ (fun _=>⟨rfl,rfl⟩) (fun a r h=>Ffc_run a r h)
def Ffn_A : (Contract × (List Entry))→List V:=cA encI_Contract (oA (slE enc_Entry))
def Ffn_R (r : Bool) : V × List V:=(B (r),[])
noncomputable def Ffn_ent : Ent:=entT [false,false] Ffn_A Ffn_R fun x=>Ffn x.1 x.2
theorem Ffn_F {c_1 : Contract} {trace_2 : List Entry} {r} (h : Ffn c_1 trace_2=some r) : (Ffn_ent).F (Ffn_A (c_1,trace_2))=some (Ffn_R r):=entT_F (cA_inj encI_Contract_inj (oA_inj (isl_inj enc_Entry_inj))) h
noncomputable def Ffn_c : Code:=bodyOf Tryz.f53
noncomputable abbrev Ffn_ka : Code:=cL (cL (cR (cL (cR (cR Ffn_c)))))
noncomputable abbrev Ffn_kb : Code:=cR (cR (cR Ffn_ka))
noncomputable abbrev Ffn_kc : Code:=cR (cR (cL (cL (cR (cR Ffn_ka)))))
noncomputable abbrev Ffn_kd : Code:=cR (cL (cR (cL (cL (cR (cR Ffn_ka))))))
noncomputable def Ffn_E : Env:=mkE Tryz.prog [(60,Ffc_ent),(73,Ffm_ent),(84,Ffp_ent)]
def Ffn_Q (x : Contract × (List Entry)) (r : Bool) : St→Prop:=QF Ffn_E Tryz.f53 [false,false] (Ffn_A x) (Ffn_R r)
theorem Ffn_la_run (c_1 : Contract) (trace_2 : List Entry)  {Q : St→Prop} {K : List It} (hK : noD K=true) : ∀ (x5 : Int) (y : Bool ⊕ Unit),Ffn_la c_1 trace_2 x5=some y→(∀ r',y=.inl r'→∀ st,Ffn_Q (c_1,trace_2) r' st→Q st)→(∀ u : Unit,y=.inr u→Run Ffn_E 0 Q K (sT 72 [] [] 1))→Run Ffn_E 0 Q (.code Ffn_ka :: .lp Ffn_ka :: .blk 0 :: K) (sT 72 [(1,.isl false ((trace_2).map enc_Entry)),(2,.hp 1 0 [] 2 0 0),(15,.isl false ((trace_2).map enc_Entry)),(16,I ((len trace_2))),(17,I (x5))] [⟨0,2,[.agg [.isl false ((c_1.Parties).map str),.isl false ((c_1.Clauses).map encI_Clause)]]⟩] 2):=by
 refine fix_indP (Ffn_la_fin c_1 trace_2) ?_
 intro self ih x5 y h hr hn
 unfold Ffn_la_F at h
 refine cq 5 [18] [B ((decide (x5 < (len trace_2))))] 18 ?_
 refine sq h (fun h=>?_) (fun h=>?_)
 · refine aq 1 ?_
   refine cq 5 [19] [I (x5)] 34 ?_
   obtain ⟨e6,he6,h⟩:=bS h
   refine oq 50 (.iptr (enc_Entry e6) 0) rfl (e_indexAddr rfl rfl rfl (ix_islE rfl rfl rfl rfl he6)) ?_
   refine ck 7 [5,6] [] [66] [] [I (x5),.hp 66 0 [] 4 0 0] [some ⟨0,4,[enc_Entry e6]⟩] 114 (by kernel_rfl) ?_
   refine s_draw [0,1,3,7,15,31,63,127,255,511,255,255,2303,7423,15615,31999,65535,131071,262143,524287,1048575,2097151,4194303,8388607,16777215,33554431,67108863,134217727,67108863,335544319,872415231,1946157055,4294967295,8589934591,17179869183] rfl (by decide +kernel) ?_
   refine dq [66] [] (.hp 66 0 [] 4 0 0) rfl (e_fieldAddr rfl rfl rfl) ?_
   refine dq [66] [] (I (e6.Day)) rfl (e_ld rfl rfl) ?_
   obtain ⟨r7,hr7,h⟩:=bS h
   refine dq [] [] (B (r7)) rfl (e_callV rfl rfl (call_P rfl rfl rfl (avS (shP rfl) (avN)) (Ffm_F hr7) (.inr rfl) (bl_n) rfl rfl rfl)) ?_ (w_callO rfl rfl rfl rfl (avS (shP rfl) (avN)) (Ffm_F hr7) (.inr rfl) rfl)
   refine dk 2 [26,25] [B ((!r7)),B ((!r7))] ?_
   obtain ⟨y8,hy8,hy81,hy82⟩:=bL h
   have j8 : ∀ u8,y8=.inr u8→Run Ffn_E 0 Q (.code Ffn_kd :: .code Ffn_kc :: .blk 1 :: .code Ffn_kb :: .lp Ffn_ka :: .blk 0 :: K) (sT 72 [(1,.isl false ((trace_2).map enc_Entry)),(2,.hp 1 0 [] 2 0 0),(6,.hp 2 0 [] 4 0 0),(15,.isl false ((trace_2).map enc_Entry)),(16,I ((len trace_2))),(17,I (x5)),(56,B (u8))] [⟨0,2,[.agg [.isl false ((c_1.Parties).map str),.isl false ((c_1.Clauses).map encI_Clause)]]⟩,⟨0,4,[enc_Entry e6]⟩] 3):=by
     intro u8 hu
     replace h:=hy82 u8 hu
     refine sq h (fun h=>?_) (fun h=>?_)
     · refine cq 4 [4] [B (false)] 19 ?_
       exact s_ret rfl (hr _ (Option.some.inj h).symm _ ⟨_,fin (vs:=[B (false)]) rfl (absE (absorb_plain rfl) (absEN)) rfl (ou_f (ou_f (ou_n))),kl_n⟩)
     · refine aq 1 ?_
       refine cq 6 [59] [B ((decide (e6.Kind ≥ 6)))] 51 ?_
       obtain ⟨y9,hy9,hy91,hy92⟩:=bL h
       have j9 : ∀ u9,y9=.inr u9→Run Ffn_E 0 Q (.blk 1 :: .code Ffn_kb :: .lp Ffn_ka :: .blk 0 :: K) (sT 72 [(1,.isl false ((trace_2).map enc_Entry)),(2,.hp 1 0 [] 2 0 0),(15,.isl false ((trace_2).map enc_Entry)),(16,I ((len trace_2))),(17,I (x5))] [⟨0,2,[.agg [.isl false ((c_1.Parties).map str),.isl false ((c_1.Clauses).map encI_Clause)]]⟩] 2):=by
         intro u9 hu
         replace h:=hy92 u9 hu
         refine cq 5 [17] [I ((w64 (x5 + 1)))] 34 ?_
         refine s_lp ?_
         exact rf [1,2,15,16,17] [1] (ih _ _ h hr hn :)
       have r9 : ∀ r',y9=.inl r'→∀ st,Ffn_Q (c_1,trace_2) r' st→Q st:=fun r' e st hq=>hr r' (hy91 r' e) st hq
       replace h:=hy9
       refine sq h (fun h=>?_) (fun h=>?_)
       · refine cq 6 [62] [B ((e6.Clause != (-1)))] 99 ?_
         refine sq h (fun h=>?_) (fun h=>?_)
         · refine cq 4 [4] [B (false)] 115 ?_
           exact s_ret rfl (r9 _ (Option.some.inj h).symm _ ⟨_,fin (vs:=[B (false)]) rfl (absE (absorb_plain rfl) (absEN)) rfl (ou_f (ou_f (ou_n))),kl_n⟩)
         · refine aq 1 ?_
           exact rf [1,2,15,16,17] [1] (j9 _ (Option.some.inj h).symm :)
       · refine cq 6 [64,66] [I (e6.Clause),.isl false ((c_1.Clauses).map encI_Clause)] 115 ?_
         refine oq 131 (I ((len c_1.Clauses))) rfl (e_len rfl rfl rfl (l_isl rfl)) ?_
         refine cq 1 [68] [I ((w64 ((len c_1.Clauses) - 1)))] 147 ?_
         obtain ⟨r10,hr10,h⟩:=bS h
         refine oq 163 (B (r10)) rfl (e_callV rfl rfl (call_P rfl rfl rfl (avS (shP rfl) (avS (shP rfl) (avS (shP rfl) (avN)))) (Ffp_F hr10) (.inr rfl) (bl_n) rfl rfl rfl)) ?_
         refine cq 2 [70] [B ((!r10))] 179 ?_
         refine sq h (fun h=>?_) (fun h=>?_)
         · refine cq 4 [4] [B (false)] 195 ?_
           exact s_ret rfl (r9 _ (Option.some.inj h).symm _ ⟨_,fin (vs:=[B (false)]) rfl (absE (absorb_plain rfl) (absEN)) rfl (ou_f (ou_f (ou_n))),kl_n⟩)
         · refine aq 1 ?_
           exact rf [1,2,15,16,17] [1] (j9 _ (Option.some.inj h).symm :)
   have r8 : ∀ r',y8=.inl r'→∀ st,Ffn_Q (c_1,trace_2) r' st→Q st:=fun r' e st hq=>hr r' (hy81 r' e) st hq
   replace h:=hy8
   refine sp 26 h rfl (fun h=>?_) (fun h=>?_)
   · refine dk 30 [56,55,54,53,52,51,50,49,48,47,46,45,44,43,42,41,40,39,38,37,36,35,34,33,32,31,30,29,28,27] [B (true),.und,.und,.und,.und,.und,.und,.und,.und,B (true),B (true),.und,.und,.und,.und,B (true),B (true),.und,.und,.und,.und,.und,.und,.und,.und,.und,.und,.und,.und,.und] ?_
     refine de 674 rfl rfl ?_
     exact rf [1,2,6,15,16,17,56] [1,66] (j8 _ (Option.some.inj h).symm :)
   · refine dk 3 [29,28,27] [B ((decide (x5 > 0))),B ((decide (x5 > 0))),I (x5)] ?_
     obtain ⟨y11,hy11,hy111,hy112⟩:=bL h
     have j11 : ∀ u11,y11=.inr u11→Run Ffn_E 0 Q (.code Ffn_kd :: .code Ffn_kc :: .blk 1 :: .code Ffn_kb :: .lp Ffn_ka :: .blk 0 :: K) (sT 72 [(1,.isl false ((trace_2).map enc_Entry)),(2,.hp 1 0 [] 2 0 0),(6,.hp 2 0 [] 4 0 0),(15,.isl false ((trace_2).map enc_Entry)),(16,I ((len trace_2))),(17,I (x5)),(56,B (u11))] [⟨0,2,[.agg [.isl false ((c_1.Parties).map str),.isl false ((c_1.Clauses).map encI_Clause)]]⟩,⟨0,4,[enc_Entry e6]⟩] 3):=by
       intro u11 hu
       replace h:=hy112 u11 hu
       exact rf [1,2,6,15,16,17,56] [1,2] (j8 _ (Option.some.inj h).symm :)
     have r11 : ∀ r',y11=.inl r'→∀ st,Ffn_Q (c_1,trace_2) r' st→Q st:=fun r' e st hq=>r8 r' (hy111 r' e) st hq
     replace h:=hy11
     refine sp 29 h rfl (fun h=>?_) (fun h=>?_)
     · refine dy [66] [] (.hp 66 0 [] 4 0 0) rfl (e_fieldAddr rfl rfl rfl) ?_
       refine dy [66] [] (I (e6.Day)) rfl (e_ld rfl rfl) ?_
       refine dk 3 [34,33,32] [I ((w64 (x5 - 1))),I (x5),.isl false ((trace_2).map enc_Entry)] ?_
       obtain ⟨e12,he12,h⟩:=bS h
       refine dy [] [] (.iptr (enc_Entry e12) 0) rfl (e_indexAddr rfl rfl rfl (ix_islE rfl rfl rfl rfl he12)) ?_
       refine dy [] [] (.iptr (enc_Entry e12) 0) rfl (e_fieldAddr rfl rfl rfl) ?_
       refine dy [] [] (I (e12.Day)) rfl (e_ld rfl rfl) ?_
       refine dk 4 [41,40,39,38] [B ((decide (e6.Day < e12.Day))),B ((decide (e6.Day < e12.Day))),B ((decide (e6.Day < e12.Day))),B ((decide (e6.Day < e12.Day)))] ?_
       obtain ⟨y13,hy13,hy131,hy132⟩:=bL h
       have j13 : ∀ u13,y13=.inr u13→Run Ffn_E 0 Q (.code Ffn_kd :: .code Ffn_kc :: .blk 1 :: .code Ffn_kb :: .lp Ffn_ka :: .blk 0 :: K) (sT 72 [(1,.isl false ((trace_2).map enc_Entry)),(2,.hp 1 0 [] 2 0 0),(6,.hp 2 0 [] 4 0 0),(15,.isl false ((trace_2).map enc_Entry)),(16,I ((len trace_2))),(17,I (x5)),(56,B (u13))] [⟨0,2,[.agg [.isl false ((c_1.Parties).map str),.isl false ((c_1.Clauses).map encI_Clause)]]⟩,⟨0,4,[enc_Entry e6]⟩] 3):=by
         intro u13 hu
         replace h:=hy132 u13 hu
         exact rf [1,2,6,15,16,17,56] [1,2] (j11 _ (Option.some.inj h).symm :)
       have r13 : ∀ r',y13=.inl r'→∀ st,Ffn_Q (c_1,trace_2) r' st→Q st:=fun r' e st hq=>r11 r' (hy131 r' e) st hq
       replace h:=hy13
       refine sp 41 h rfl (fun h=>?_) (fun h=>?_)
       · refine dk 15 [56,55,54,53,52,51,50,49,48,47,46,45,44,43,42] [B (true),.und,.und,.und,.und,.und,.und,.und,.und,B (true),B (true),.und,.und,.und,.und] ?_
         refine de 674 rfl rfl ?_
         exact rf [1,2,6,15,16,17,56] [1,66] (j13 _ (Option.some.inj h).symm :)
       · refine dy [66] [] (.hp 66 0 [] 4 0 1) rfl (e_fieldAddr rfl rfl rfl) ?_
         refine dy [66] [] (I (e6.Kind)) rfl (e_ld rfl rfl) ?_
         obtain ⟨r14,hr14,h⟩:=bS h
         refine dy [] [] (B (r14)) rfl (e_callV rfl rfl (call_P rfl rfl rfl (avS (shP rfl) (avS (shP rfl) (avS (shP rfl) (avN)))) (Ffp_F hr14) (.inr rfl) (bl_n) rfl rfl rfl)) ?_ (w_callO rfl rfl rfl rfl (avS (shP rfl) (avS (shP rfl) (avS (shP rfl) (avN)))) (Ffp_F hr14) (.inr rfl) rfl)
         refine dk 3 [47,46,45] [B ((!r14)),B ((!r14)),B ((!r14))] ?_
         obtain ⟨y15,hy15,hy151,hy152⟩:=bL h
         have j15 : ∀ u15,y15=.inr u15→Run Ffn_E 0 Q (.code Ffn_kd :: .code Ffn_kc :: .blk 1 :: .code Ffn_kb :: .lp Ffn_ka :: .blk 0 :: K) (sT 72 [(1,.isl false ((trace_2).map enc_Entry)),(2,.hp 1 0 [] 2 0 0),(6,.hp 2 0 [] 4 0 0),(15,.isl false ((trace_2).map enc_Entry)),(16,I ((len trace_2))),(17,I (x5)),(56,B (u15))] [⟨0,2,[.agg [.isl false ((c_1.Parties).map str),.isl false ((c_1.Clauses).map encI_Clause)]]⟩,⟨0,4,[enc_Entry e6]⟩] 3):=by
           intro u15 hu
           replace h:=hy152 u15 hu
           exact rf [1,2,6,15,16,17,56] [1,2] (j13 _ (Option.some.inj h).symm :)
         have r15 : ∀ r',y15=.inl r'→∀ st,Ffn_Q (c_1,trace_2) r' st→Q st:=fun r' e st hq=>r13 r' (hy151 r' e) st hq
         replace h:=hy15
         refine sp 47 h rfl (fun h=>?_) (fun h=>?_)
         · refine dk 9 [56,55,54,53,52,51,50,49,48] [B (true),.und,.und,.und,.und,.und,.und,.und,.und] ?_
           refine de 674 rfl rfl ?_
           exact rf [1,2,6,15,16,17,56] [1,66] (j15 _ (Option.some.inj h).symm :)
         · refine dy [66] [] (.hp 66 0 [] 4 0 3) rfl (e_fieldAddr rfl rfl rfl) ?_
           refine dy [66] [] (I (e6.Party)) rfl (e_ld rfl rfl) ?_
           refine dy [1] [] (.hp 1 0 [] 2 0 0) rfl (e_fieldAddr rfl rfl rfl) ?_
           refine dy [1] [] (.isl false ((c_1.Parties).map str)) rfl (e_ld rfl rfl) ?_
           refine dy [] [] (I ((len c_1.Parties))) rfl (e_len rfl rfl rfl (l_isl rfl)) ?_
           refine dk 1 [53] [I ((w64 ((len c_1.Parties) - 1)))] ?_
           obtain ⟨r16,hr16,h⟩:=bS h
           refine dy [] [] (B (r16)) rfl (e_callV rfl rfl (call_P rfl rfl rfl (avS (shP rfl) (avS (shP rfl) (avS (shP rfl) (avN)))) (Ffp_F hr16) (.inr rfl) (bl_n) rfl rfl rfl)) ?_ (w_callO rfl rfl rfl rfl (avS (shP rfl) (avS (shP rfl) (avS (shP rfl) (avN)))) (Ffp_F hr16) (.inr rfl) rfl)
           refine dk 2 [56,55] [B ((!r16)),B ((!r16))] ?_
           refine de 674 rfl rfl ?_
           exact rf [1,2,6,15,16,17,56] [1,66] (j15 _ (Option.some.inj h).symm :)
     · refine dk 12 [41,40,39,38,37,36,35,34,33,32,31,30] [B (false),B (false),B (false),.und,.und,.und,.und,.und,.und,.und,.und,.und] ?_
       refine dy [66] [] (.hp 66 0 [] 4 0 1) rfl (e_fieldAddr rfl rfl rfl) ?_
       refine dy [66] [] (I (e6.Kind)) rfl (e_ld rfl rfl) ?_
       obtain ⟨r17,hr17,h⟩:=bS h
       refine dy [] [] (B (r17)) rfl (e_callV rfl rfl (call_P rfl rfl rfl (avS (shP rfl) (avS (shP rfl) (avS (shP rfl) (avN)))) (Ffp_F hr17) (.inr rfl) (bl_n) rfl rfl rfl)) ?_ (w_callO rfl rfl rfl rfl (avS (shP rfl) (avS (shP rfl) (avS (shP rfl) (avN)))) (Ffp_F hr17) (.inr rfl) rfl)
       refine dk 3 [47,46,45] [B ((!r17)),B ((!r17)),B ((!r17))] ?_
       obtain ⟨y18,hy18,hy181,hy182⟩:=bL h
       have j18 : ∀ u18,y18=.inr u18→Run Ffn_E 0 Q (.code Ffn_kd :: .code Ffn_kc :: .blk 1 :: .code Ffn_kb :: .lp Ffn_ka :: .blk 0 :: K) (sT 72 [(1,.isl false ((trace_2).map enc_Entry)),(2,.hp 1 0 [] 2 0 0),(6,.hp 2 0 [] 4 0 0),(15,.isl false ((trace_2).map enc_Entry)),(16,I ((len trace_2))),(17,I (x5)),(56,B (u18))] [⟨0,2,[.agg [.isl false ((c_1.Parties).map str),.isl false ((c_1.Clauses).map encI_Clause)]]⟩,⟨0,4,[enc_Entry e6]⟩] 3):=by
         intro u18 hu
         replace h:=hy182 u18 hu
         exact rf [1,2,6,15,16,17,56] [1,2] (j11 _ (Option.some.inj h).symm :)
       have r18 : ∀ r',y18=.inl r'→∀ st,Ffn_Q (c_1,trace_2) r' st→Q st:=fun r' e st hq=>r11 r' (hy181 r' e) st hq
       replace h:=hy18
       refine sp 47 h rfl (fun h=>?_) (fun h=>?_)
       · refine dk 9 [56,55,54,53,52,51,50,49,48] [B (true),.und,.und,.und,.und,.und,.und,.und,.und] ?_
         refine de 674 rfl rfl ?_
         exact rf [1,2,6,15,16,17,56] [1,66] (j18 _ (Option.some.inj h).symm :)
       · refine dy [66] [] (.hp 66 0 [] 4 0 3) rfl (e_fieldAddr rfl rfl rfl) ?_
         refine dy [66] [] (I (e6.Party)) rfl (e_ld rfl rfl) ?_
         refine dy [1] [] (.hp 1 0 [] 2 0 0) rfl (e_fieldAddr rfl rfl rfl) ?_
         refine dy [1] [] (.isl false ((c_1.Parties).map str)) rfl (e_ld rfl rfl) ?_
         refine dy [] [] (I ((len c_1.Parties))) rfl (e_len rfl rfl rfl (l_isl rfl)) ?_
         refine dk 1 [53] [I ((w64 ((len c_1.Parties) - 1)))] ?_
         obtain ⟨r19,hr19,h⟩:=bS h
         refine dy [] [] (B (r19)) rfl (e_callV rfl rfl (call_P rfl rfl rfl (avS (shP rfl) (avS (shP rfl) (avS (shP rfl) (avN)))) (Ffp_F hr19) (.inr rfl) (bl_n) rfl rfl rfl)) ?_ (w_callO rfl rfl rfl rfl (avS (shP rfl) (avS (shP rfl) (avS (shP rfl) (avN)))) (Ffp_F hr19) (.inr rfl) rfl)
         refine dk 2 [56,55] [B ((!r19)),B ((!r19))] ?_
         refine de 674 rfl rfl ?_
         exact rf [1,2,6,15,16,17,56] [1,66] (j18 _ (Option.some.inj h).symm :)
 · refine aq 1 ?_
   exact rf [] [] (hn _ (Option.some.inj h).symm :) (hk:=hK)
theorem Ffn_run (c_1 : Contract) (trace_2 : List Entry) (r : Bool) (h : Ffn c_1 trace_2=some r) : RunF Ffn_E Tryz.f53 [false,false] 0 (Ffn_A (c_1,trace_2)) (Ffn_R r):=by
 show Run _ _ (Ffn_Q (c_1,trace_2) r) [.code Ffn_c] _
 refine rin (n:=72) [(0,.agg [.isl false ((c_1.Parties).map str),.isl false ((c_1.Clauses).map encI_Clause)]),(1,.isl false ((trace_2).map enc_Entry))] [] 1 (by kernel_rfl) (by kernel_rfl) (by kernel_rfl) rfl ?_
 unfold Ffn at h
 refine ck 9 [2,7] [] [1] [] [.hp 1 0 [] 2 0 0,.agg [.isl false ((c_1.Parties).map str),.isl false ((c_1.Clauses).map encI_Clause)]] [some ⟨0,2,[.agg [.isl false ((c_1.Parties).map str),.isl false ((c_1.Clauses).map encI_Clause)]]⟩] 49 (by kernel_rfl) ?_
 obtain ⟨r3,hr3,h⟩:=bS h
 refine oq 65 (B (r3)) rfl (e_callV rfl rfl (call_P rfl rfl rfl (avS (shP rfl) (avN)) (Ffc_F hr3) (.inr rfl) (bl_n) rfl rfl rfl)) ?_
 refine cq 2 [10] [B ((!r3))] 97 ?_
 obtain ⟨u4,hu4,h⟩:=lJ h
 have j4 : Run Ffn_E 0 (Ffn_Q (c_1,trace_2) r) (.code (cR (cL (cR Ffn_c))) :: .code (cR (cR Ffn_c)) :: []) (sT 72 [(1,.isl false ((trace_2).map enc_Entry)),(2,.hp 1 0 [] 2 0 0),(14,B (u4))] [⟨0,2,[.agg [.isl false ((c_1.Parties).map str),.isl false ((c_1.Clauses).map encI_Clause)]]⟩] 2):=by
   refine sq h (fun h=>?_) (fun h=>?_)
   · refine cq 4 [4] [B (false)] 18 ?_
     obtain rfl:=Option.some.inj h
     exact s_ret rfl ⟨_,fin (vs:=[B (false)]) rfl (absE (absorb_plain rfl) (absEN)) rfl (ou_f (ou_f (ou_n))),kl_n⟩
   · refine aq 1 ?_
     refine cq 4 [15] [.isl false ((trace_2).map enc_Entry)] 18 ?_
     refine oq 34 (I ((len trace_2))) rfl (e_len rfl rfl rfl (l_isl rfl)) ?_
     refine cq 3 [17] [I (0)] 50 ?_
     obtain ⟨y20,hy20,hy201,hy202⟩:=bJ h
     refine s_loop rfl ?_
     refine rf [1,2,15,16,17] [1] (Ffn_la_run c_1 trace_2 rfl 0 _ hy20 (fun r' e st hq=>by rw [hy201 r' e] at hq; exact hq) fun u20 hu=>?_)
     replace h:=hy202 u20 hu
     refine cq 4 [4] [B (true)] 17 ?_
     obtain rfl:=Option.some.inj h
     exact s_ret rfl ⟨_,fin (vs:=[B (true)]) rfl (absE (absorb_plain rfl) (absEN)) rfl (ou_f (ou_f (ou_n))),kl_n⟩
 replace h:=hu4
 clear hu4
 refine sp 10 h rfl (fun h=>?_) (fun h=>?_)
 · refine cq 5 [14] [B (true)] 161 ?_
   subst h
   exact rf [1,2,14] [1] (j4 :)
 · refine cq 1 [11] [.isl false ((trace_2).map enc_Entry)] 113 ?_
   refine oy 129 (I ((len trace_2))) rfl (e_len rfl rfl rfl (l_isl rfl)) ?_
   refine cq 3 [14] [B ((decide ((len trace_2) > 200)))] 161 ?_
   subst h
   exact rf [1,2,14] [1] (j4 :)
theorem Ffn_good {G : Go.Ln.Ground} : Good Tryz.prog G 53 Ffn_ent:=good_T (fnOf_good (gl_c Ffc_good (gl_c Ffm_good (gl_c Ffp_good (gl_n))))) agree_mk (Checked.mixed Tryz.checked) Tryz.func53 (n:=2) (m:=0) ⟨rfl,rfl,by decide⟩ (fun _=>⟨rfl,rfl⟩) (fun a r h=>Ffn_run a.1 a.2 r h)
def Ffk_A : Entry→List V:=oA enc_Entry
def Ffk_R (r : Bool) : V × List V:=(B (r),[])
noncomputable def Ffk_ent : Ent:=entT [false] Ffk_A Ffk_R fun x=>Ffk x
theorem Ffk_F {x_1 : Entry} {r} (h : Ffk x_1=some r) : (Ffk_ent).F (Ffk_A x_1)=some (Ffk_R r):=entT_F (oA_inj enc_Entry_inj) h
noncomputable def Ffk_c : Code:=bodyOf Tryz.f55
noncomputable def Ffk_E : Env:=mkE Tryz.prog []
def Ffk_Q (x : Entry) (r : Bool) : St→Prop:=QF Ffk_E Tryz.f55 [false] (Ffk_A x) (Ffk_R r)
theorem Ffk_run (x_1 : Entry) (r : Bool) (h : Ffk x_1=some r) : RunF Ffk_E Tryz.f55 [false] 0 (Ffk_A x_1) (Ffk_R r):=by
 show Run _ _ (Ffk_Q x_1 r) [.code Ffk_c] _
 refine rin (n:=11) [(0,enc_Entry x_1)] [] 1 (by kernel_rfl) (by kernel_rfl) (by kernel_rfl) rfl ?_
 unfold Ffk at h
 refine ck 11 [1,6] [] [1] [] [.hp 1 0 [] 4 0 0,B ((x_1.Kind == 2))] [some ⟨0,4,[enc_Entry x_1]⟩] 97 (by kernel_rfl) ?_
 obtain ⟨u2,hu2,h⟩:=lJ h
 have j2 : Run Ffk_E 0 (Ffk_Q x_1 r) (.code (cR (cR Ffk_c)) :: []) (sT 11 [(2,B (u2))] [] 1):=by
   obtain rfl:=Option.some.inj h
   exact s_ret rfl ⟨_,fin (vs:=[B (u2)]) rfl (absE (absorb_plain rfl) (absEN)) rfl (ou_f (ou_n)),kl_n⟩
 replace h:=hu2
 clear hu2
 refine sp 6 h rfl (fun h=>?_) (fun h=>?_)
 · refine cq 6 [2] [B (true)] 177 ?_
   subst h
   exact rf [2] [] (j2 :)
 · refine cq 6 [2] [B ((x_1.Kind == 4))] 177 ?_
   subst h
   exact rf [2] [] (j2 :)
theorem Ffk_good {G : Go.Ln.Ground} : Good Tryz.prog G 55 Ffk_ent:=good_T (fnOf_good (gl_n)) agree_mk (Checked.mixed Tryz.checked) Tryz.func55 (n:=1) (m:=0) ⟨rfl,rfl,by decide⟩ (fun _=>⟨rfl,rfl⟩) (fun a r h=>Ffk_run a r h)
def Ffby_A : ((List Entry) × Unit)→List V:=cA (slE enc_Entry) (oA (fun x : Unit=>(.fn 55 [] : V)))
def Ffby_R (r : Int) : V × List V:=(I (r),[])
noncomputable def Ffby_ent : Ent:=entT [false,false] Ffby_A Ffby_R fun x=>Ffby x.1 x.2
theorem Ffby_F {s_1 : List Entry} {f_2 : Unit} {r} (h : Ffby s_1 f_2=some r) : (Ffby_ent).F (Ffby_A (s_1,f_2))=some (Ffby_R r):=entT_F (cA_inj (isl_inj enc_Entry_inj) (oA_inj (fn_inj0 ))) h
noncomputable def Ffby_c : Code:=bodyOf Tryz.f54
noncomputable def Ffby_E : Env:=mkE Tryz.prog [(55,Ffk_ent)]
def Ffby_Q (x : (List Entry) × Unit) (r : Int) : St→Prop:=QF Ffby_E Tryz.f54 [false,false] (Ffby_A x) (Ffby_R r)
theorem Ffby_la_run (s_1 : List Entry) (f_2 : Unit)  {Q : St→Prop} {K : List It} (hK : noD K=true) : ∀ (x3 : Int) (y : Int ⊕ Unit),Ffby_la s_1 f_2 x3=some y→(∀ r',y=.inl r'→∀ st,Ffby_Q (s_1,f_2) r' st→Q st)→(∀ u : Unit,y=.inr u→Run Ffby_E 0 Q K (sT 19 [] [] 1))→Run Ffby_E 0 Q (.code (cL (cL (cR (cL (cR Ffby_c))))) :: .lp (cL (cL (cR (cL (cR Ffby_c))))) :: .blk 0 :: K) (sT 19 [(0,.isl false ((s_1).map enc_Entry)),(1,.fn 55 []),(7,I ((len s_1))),(8,I (x3))] [] 1):=by
 refine fix_indP (Ffby_la_fin s_1 f_2) ?_
 intro self ih x3 y h hr hn
 unfold Ffby_la_F at h
 refine cq 5 [9] [B ((decide (x3 < (len s_1))))] 17 ?_
 refine sq h (fun h=>?_) (fun h=>?_)
 · refine aq 1 ?_
   refine cq 12 [5,11,12,13] [I (x3),.fn 55 [],.isl false ((s_1).map enc_Entry),I (x3)] 97 ?_
   obtain ⟨e4,he4,h⟩:=bS h
   refine oq 113 (.iptr (enc_Entry e4) 0) rfl (e_indexAddr rfl rfl rfl (ix_islE rfl rfl rfl rfl he4)) ?_
   refine cq 1 [15] [enc_Entry e4] 129 ?_
   obtain ⟨r5,hr5,h⟩:=bS h
   refine oq 145 (B (r5)) rfl (e_callV rfl rfl (call_P rfl rfl rfl (avS (shP rfl) (avN)) (Ffk_F hr5) (.inr rfl) (bl_n) rfl rfl rfl)) ?_
   refine aq 1 ?_
   refine sq h (fun h=>?_) (fun h=>?_)
   · refine cq 5 [4] [I (x3)] 177 ?_
     exact s_ret rfl (hr _ (Option.some.inj h).symm _ ⟨_,fin (vs:=[I (x3)]) rfl (absE (absorb_plain rfl) (absEN)) rfl (ou_f (ou_f (ou_n))),kl_n⟩)
   · refine aq 1 ?_
     refine cq 5 [8] [I ((w64 (x3 + 1)))] 177 ?_
     refine s_lp ?_
     exact rf [0,1,7,8] [] (ih _ _ h hr hn :)
 · refine aq 1 ?_
   exact rf [] [] (hn _ (Option.some.inj h).symm :) (hk:=hK)
theorem Ffby_run (s_1 : List Entry) (f_2 : Unit) (r : Int) (h : Ffby s_1 f_2=some r) : RunF Ffby_E Tryz.f54 [false,false] 0 (Ffby_A (s_1,f_2)) (Ffby_R r):=by
 show Run _ _ (Ffby_Q (s_1,f_2) r) [.code Ffby_c] _
 refine rin (n:=19) [(0,.isl false ((s_1).map enc_Entry)),(1,.fn 55 [])] [] 1 (by kernel_rfl) (by kernel_rfl) (by kernel_rfl) rfl ?_
 unfold Ffby at h
 refine cq 8 [6] [.isl false ((s_1).map enc_Entry)] 33 ?_
 refine oq 49 (I ((len s_1))) rfl (e_len rfl rfl rfl (l_isl rfl)) ?_
 refine cq 3 [8] [I (0)] 65 ?_
 obtain ⟨y6,hy6,hy61,hy62⟩:=bJ h
 refine s_loop rfl ?_
 refine rf [0,1,7,8] [] (Ffby_la_run s_1 f_2 rfl 0 _ hy6 (fun r' e st hq=>by rw [hy61 r' e] at hq; exact hq) fun u6 hu=>?_)
 replace h:=hy62 u6 hu
 refine cq 4 [4] [I ((-1))] 17 ?_
 obtain rfl:=Option.some.inj h
 exact s_ret rfl ⟨_,fin (vs:=[I ((-1))]) rfl (absE (absorb_plain rfl) (absEN)) rfl (ou_f (ou_f (ou_n))),kl_n⟩
theorem Ffby_good {G : Go.Ln.Ground} : Good Tryz.prog G 54 Ffby_ent:=good_T (fnOf_good (gl_c Ffk_good (gl_n))) agree_mk (Checked.mixed Tryz.checked) Tryz.func54 (n:=2) (m:=0) ⟨rfl,rfl,by decide⟩ (fun _=>⟨rfl,rfl⟩) (fun a r h=>Ffby_run a.1 a.2 r h)
def Ffa_A : (Contract × (List Entry))→List V:=cA encI_Contract (oA (slE enc_Entry))
def Ffa_R (r : Int × Bool) : V × List V:=(.tup [I (r.1),B (r.2)],[])
noncomputable def Ffa_ent : Ent:=entT [false,false] Ffa_A Ffa_R fun x=>Ffa x.1 x.2
theorem Ffa_F {c_1 : Contract} {trace_2 : List Entry} {r} (h : Ffa c_1 trace_2=some r) : (Ffa_ent).F (Ffa_A (c_1,trace_2))=some (Ffa_R r):=entT_F (cA_inj encI_Contract_inj (oA_inj (isl_inj enc_Entry_inj))) h
noncomputable def Ffa_c : Code:=bodyOf Tryz.f15
noncomputable def Ffa_E : Env:=mkE Tryz.prog [(53,Ffn_ent),(54,Ffby_ent)]
def Ffa_Q (x : Contract × (List Entry)) (r : Int × Bool) : St→Prop:=QF Ffa_E Tryz.f15 [false,false] (Ffa_A x) (Ffa_R r)
theorem Ffa_run (c_1 : Contract) (trace_2 : List Entry) (r : Int × Bool) (h : Ffa c_1 trace_2=some r) : RunF Ffa_E Tryz.f15 [false,false] 0 (Ffa_A (c_1,trace_2)) (Ffa_R r):=by
 show Run _ _ (Ffa_Q (c_1,trace_2) r) [.code Ffa_c] _
 refine rin (n:=12) [(0,.agg [.isl false ((c_1.Parties).map str),.isl false ((c_1.Clauses).map encI_Clause)]),(1,.isl false ((trace_2).map enc_Entry))] [] 1 (by kernel_rfl) (by kernel_rfl) (by kernel_rfl) rfl ?_
 unfold Ffa at h
 refine cq 11 [6,7] [.agg [.isl false ((c_1.Parties).map str),.isl false ((c_1.Clauses).map encI_Clause)],.isl false ((trace_2).map enc_Entry)] 81 ?_
 obtain ⟨r3,hr3,h⟩:=bS h
 refine oq 97 (B (r3)) rfl (e_callV rfl rfl (call_P rfl rfl rfl (avS (shP rfl) (avS (shP rfl) (avN))) (Ffn_F hr3) (.inr rfl) (bl_n) rfl rfl rfl)) ?_
 refine cq 2 [9] [B ((!r3))] 113 ?_
 refine sq h (fun h=>?_) (fun h=>?_)
 · refine cq 5 [4,5] [I (0),B (false)] 145 ?_
   obtain rfl:=Option.some.inj h
   exact s_ret rfl ⟨_,fin (vs:=[I (0),B (false)]) rfl (absE (absorb_plain rfl) (absE (absorb_plain rfl) (absEN))) rfl (ou_f (ou_f (ou_n))),kl_n⟩
 · refine aq 1 ?_
   refine cq 3 [10] [.isl false ((trace_2).map enc_Entry)] 129 ?_
   obtain ⟨r4,hr4,h⟩:=bS h
   refine oq 145 (I (r4)) rfl (e_callV rfl rfl (call_P rfl rfl rfl (avS (shP rfl) (avS (shP rfl) (avN))) (Ffby_F hr4) (.inr rfl) (bl_n) rfl rfl rfl)) ?_
   refine cq 3 [4,5] [I (r4),B (true)] 177 ?_
   obtain rfl:=Option.some.inj h
   exact s_ret rfl ⟨_,fin (vs:=[I (r4),B (true)]) rfl (absE (absorb_plain rfl) (absE (absorb_plain rfl) (absEN))) rfl (ou_f (ou_f (ou_n))),kl_n⟩
theorem Ffa_good {G : Go.Ln.Ground} : Good Tryz.prog G 15 Ffa_ent:=good_T (fnOf_good (gl_c Ffn_good (gl_c Ffby_good (gl_n)))) agree_mk (Checked.mixed Tryz.checked) Tryz.func15 (n:=2) (m:=0) ⟨rfl,rfl,by decide⟩ (fun _=>⟨rfl,rfl⟩) (fun a r h=>Ffa_run a.1 a.2 r h)
def Ffba_A : ((List Str) × (List Str))→List V:=cA (slE str) (oA (slE str))
def Ffba_R (r : Bool) : V × List V:=(B (r),[])
noncomputable def Ffba_ent : Ent:=entT [false,false] Ffba_A Ffba_R fun x=>Ffba x.1 x.2
theorem Ffba_F {a_1 : List Str} {b_2 : List Str} {r} (h : Ffba a_1 b_2=some r) : (Ffba_ent).F (Ffba_A (a_1,b_2))=some (Ffba_R r):=entT_F (cA_inj (isl_inj str_inj) (oA_inj (isl_inj str_inj))) h
noncomputable def Ffba_c : Code:=bodyOf Tryz.f56
noncomputable def Ffba_E : Env:=mkE Tryz.prog []
def Ffba_Q (x : (List Str) × (List Str)) (r : Bool) : St→Prop:=QF Ffba_E Tryz.f56 [false,false] (Ffba_A x) (Ffba_R r)
theorem Ffba_la_run (a_1 : List Str) (b_2 : List Str)  {Q : St→Prop} {K : List It} (hK : noD K=true) : ∀ (x3 : Int) (y : Bool ⊕ Unit),Ffba_la a_1 b_2 x3=some y→(∀ r',y=.inl r'→∀ st,Ffba_Q (a_1,b_2) r' st→Q st)→(∀ u : Unit,y=.inr u→Run Ffba_E 0 Q K (sT 26 [] [] 1))→Run Ffba_E 0 Q (.code (cL (cL (cR (cL (cR (cR Ffba_c)))))) :: .lp (cL (cL (cR (cL (cR (cR Ffba_c)))))) :: .blk 0 :: K) (sT 26 [(0,.isl false ((a_1).map str)),(1,.isl false ((b_2).map str)),(5,I (x3))] [] 1):=by
 refine fix_indP (Ffba_la_fin a_1 b_2) ?_
 intro self ih x3 y h hr hn
 unfold Ffba_la_F at h
 refine cq 5 [11,12] [I (x3),.isl false ((a_1).map str)] 33 ?_
 refine oq 49 (I ((len a_1))) rfl (e_len rfl rfl rfl (l_isl rfl)) ?_
 refine cq 2 [14] [B ((decide (x3 < (len a_1))))] 65 ?_
 refine sq h (fun h=>?_) (fun h=>?_)
 · refine aq 1 ?_
   refine aq 3 ?_
   refine s_draw [0,0,3,7,0,0,48,112,255] rfl (by decide +kernel) ?_
   refine dk 2 [18,17] [I (x3),.isl false ((a_1).map str)] ?_
   obtain ⟨e4,he4,h⟩:=bS h
   refine dq [] [] (.iptr (str (e4)) 0) rfl (e_indexAddr rfl rfl rfl (ix_islE rfl rfl rfl rfl he4)) ?_
   refine dq [] [] (str (e4)) rfl (e_ld rfl rfl) ?_
   refine dk 2 [22,21] [I (x3),.isl false ((b_2).map str)] ?_
   obtain ⟨e5,he5,h⟩:=bS h
   refine dq [] [] (.iptr (str (e5)) 0) rfl (e_indexAddr rfl rfl rfl (ix_islE rfl rfl rfl rfl he5)) ?_
   refine dq [] [] (str (e5)) rfl (e_ld rfl rfl) ?_
   refine dk 1 [25] [B ((!(e4 == e5)))] ?_
   refine de 209 rfl rfl ?_
   refine sq h (fun h=>?_) (fun h=>?_)
   · refine cq 4 [4] [B (false)] 225 ?_
     exact s_ret rfl (hr _ (Option.some.inj h).symm _ ⟨_,fin (vs:=[B (false)]) rfl (absE (absorb_plain rfl) (absEN)) rfl (ou_f (ou_f (ou_n))),kl_n⟩)
   · refine aq 1 ?_
     refine cq 6 [5] [I ((w64 (x3 + 1)))] 257 ?_
     refine s_lp ?_
     exact rf [0,1,5] [] (ih _ _ h hr hn :)
 · refine aq 1 ?_
   exact rf [] [] (hn _ (Option.some.inj h).symm :) (hk:=hK)
theorem Ffba_run (a_1 : List Str) (b_2 : List Str) (r : Bool) (h : Ffba a_1 b_2=some r) : RunF Ffba_E Tryz.f56 [false,false] 0 (Ffba_A (a_1,b_2)) (Ffba_R r):=by
 show Run _ _ (Ffba_Q (a_1,b_2) r) [.code Ffba_c] _
 refine rin (n:=26) [(0,.isl false ((a_1).map str)),(1,.isl false ((b_2).map str))] [] 1 (by kernel_rfl) (by kernel_rfl) (by kernel_rfl) rfl ?_
 unfold Ffba at h
 refine cq 8 [6] [.isl false ((a_1).map str)] 33 ?_
 refine oq 49 (I ((len a_1))) rfl (e_len rfl rfl rfl (l_isl rfl)) ?_
 refine cq 1 [8] [.isl false ((b_2).map str)] 65 ?_
 refine oq 81 (I ((len b_2))) rfl (e_len rfl rfl rfl (l_isl rfl)) ?_
 refine cq 2 [10] [B (((len a_1) != (len b_2)))] 97 ?_
 refine sq h (fun h=>?_) (fun h=>?_)
 · refine cq 4 [4] [B (false)] 113 ?_
   obtain rfl:=Option.some.inj h
   exact s_ret rfl ⟨_,fin (vs:=[B (false)]) rfl (absE (absorb_plain rfl) (absEN)) rfl (ou_f (ou_f (ou_n))),kl_n⟩
 · refine aq 1 ?_
   refine cq 6 [5] [I (0)] 113 ?_
   obtain ⟨y6,hy6,hy61,hy62⟩:=bJ h
   refine s_loop rfl ?_
   refine rf [0,1,5] [] (Ffba_la_run a_1 b_2 rfl 0 _ hy6 (fun r' e st hq=>by rw [hy61 r' e] at hq; exact hq) fun u6 hu=>?_)
   replace h:=hy62 u6 hu
   refine cq 4 [4] [B (true)] 17 ?_
   obtain rfl:=Option.some.inj h
   exact s_ret rfl ⟨_,fin (vs:=[B (true)]) rfl (absE (absorb_plain rfl) (absEN)) rfl (ou_f (ou_f (ou_n))),kl_n⟩
theorem Ffba_good {G : Go.Ln.Ground} : Good Tryz.prog G 56 Ffba_ent:=good_T (fnOf_good (gl_n)) agree_mk (Checked.mixed Tryz.checked) Tryz.func56 (n:=2) (m:=0) ⟨rfl,rfl,by decide⟩ (fun _=>⟨rfl,rfl⟩) (fun a r h=>Ffba_run a.1 a.2 r h)
def Ffu_A : (Condition × Condition)→List V:=cA encI_Condition1 (oA encI_Condition1)
def Ffu_R (r : Bool) : V × List V:=(B (r),[])
noncomputable def Ffu_entS (slf_Ffu : (Condition × Condition)→Option Bool) : Ent:=entT [false,false] Ffu_A Ffu_R slf_Ffu
theorem Ffu_FS (slf_Ffu : (Condition × Condition)→Option Bool) {x} {r} (h : slf_Ffu x=some r) : (Ffu_entS slf_Ffu).F (Ffu_A x)=some (Ffu_R r):=entT_F (cA_inj encI_Condition1_inj (oA_inj encI_Condition1_inj)) h
def Ffw_A : ((List Condition) × (List Condition))→List V:=cA (slE encI_Condition) (oA (slE encI_Condition))
def Ffw_R (r : Bool) : V × List V:=(B (r),[])
noncomputable def Ffw_ent (slf_Ffu : (Condition × Condition)→Option Bool) : Ent:=entT [false,false] Ffw_A Ffw_R fun x=>Ffw slf_Ffu x.1 x.2
theorem Ffw_F (slf_Ffu : (Condition × Condition)→Option Bool) {a_1 : List Condition} {b_2 : List Condition} {r} (h : Ffw slf_Ffu a_1 b_2=some r) : (Ffw_ent slf_Ffu).F (Ffw_A (a_1,b_2))=some (Ffw_R r):=entT_F (cA_inj (isl_inj encI_Condition_inj) (oA_inj (isl_inj encI_Condition_inj))) h
noncomputable def Ffw_c : Code:=bodyOf Tryz.f166
noncomputable def Ffw_E (slf_Ffu : (Condition × Condition)→Option Bool) : Env:=mkE Tryz.prog [(139,(Ffu_entS slf_Ffu))]
def Ffw_Q (slf_Ffu : (Condition × Condition)→Option Bool) (x : (List Condition) × (List Condition)) (r : Bool) : St→Prop:=QF (Ffw_E slf_Ffu) Tryz.f166 [false,false] (Ffw_A x) (Ffw_R r)
theorem Ffw_la_run (slf_Ffu : (Condition × Condition)→Option Bool) (a_1 : List Condition) (b_2 : List Condition)  {Q : St→Prop} {K : List It} (hK : noD K=true) : ∀ (x3 : Int) (y : Bool ⊕ Unit),Ffw_la slf_Ffu a_1 b_2 x3=some y→(∀ r',y=.inl r'→∀ st,Ffw_Q slf_Ffu (a_1,b_2) r' st→Q st)→(∀ u : Unit,y=.inr u→Run (Ffw_E slf_Ffu) 0 Q K (sT 27 [] [] 1))→Run (Ffw_E slf_Ffu) 0 Q (.code (cL (cL (cR (cL (cR (cR Ffw_c)))))) :: .lp (cL (cL (cR (cL (cR (cR Ffw_c)))))) :: .blk 0 :: K) (sT 27 [(0,.isl false ((a_1).map encI_Condition)),(1,.isl false ((b_2).map encI_Condition)),(5,I (x3))] [] 1):=by
 refine fix_indP (Ffw_la_fin slf_Ffu a_1 b_2) ?_
 intro self ih x3 y h hr hn
 unfold Ffw_la_F at h
 refine cq 5 [11,12] [I (x3),.isl false ((a_1).map encI_Condition)] 33 ?_
 refine oq 49 (I ((len a_1))) rfl (e_len rfl rfl rfl (l_isl rfl)) ?_
 refine cq 2 [14] [B ((decide (x3 < (len a_1))))] 65 ?_
 refine sq h (fun h=>?_) (fun h=>?_)
 · refine aq 1 ?_
   refine aq 3 ?_
   refine s_draw [0,0,3,7,0,0,48,112,255,511] rfl (by decide +kernel) ?_
   refine dk 2 [18,17] [I (x3),.isl false ((a_1).map encI_Condition)] ?_
   obtain ⟨e4,he4,h⟩:=bS h
   refine dq [] [] (.iptr (.agg [I (e4.Op),str (e4.Name),I (e4.Day),.isl false ((e4.Parts).map encI_Condition)]) 0) rfl (e_indexAddr rfl rfl rfl (ix_islE rfl rfl (encI_Condition_eq e4) rfl he4)) ?_
   refine dq [] [] (.agg [I (e4.Op),str (e4.Name),I (e4.Day),.isl false ((e4.Parts).map encI_Condition)]) rfl (e_ld rfl rfl) ?_
   refine dk 2 [22,21] [I (x3),.isl false ((b_2).map encI_Condition)] ?_
   obtain ⟨e5,he5,h⟩:=bS h
   refine dq [] [] (.iptr (.agg [I (e5.Op),str (e5.Name),I (e5.Day),.isl false ((e5.Parts).map encI_Condition)]) 0) rfl (e_indexAddr rfl rfl rfl (ix_islE rfl rfl (encI_Condition_eq e5) rfl he5)) ?_
   refine dq [] [] (.agg [I (e5.Op),str (e5.Name),I (e5.Day),.isl false ((e5.Parts).map encI_Condition)]) rfl (e_ld rfl rfl) ?_
   obtain ⟨r6,hr6,h⟩:=bS h
   refine dq [] [] (B (r6)) rfl (e_callV rfl rfl (call_P rfl rfl rfl (avS (shP rfl) (avS (shP rfl) (avN))) (Ffu_FS slf_Ffu hr6) (.inr rfl) (bl_n) rfl rfl rfl)) ?_ (w_callO rfl rfl rfl rfl (avS (shP rfl) (avS (shP rfl) (avN))) (Ffu_FS slf_Ffu hr6) (.inr rfl) rfl)
   refine dk 1 [26] [B ((!r6))] ?_
   refine de 225 rfl rfl ?_
   refine sq h (fun h=>?_) (fun h=>?_)
   · refine cq 4 [4] [B (false)] 241 ?_
     exact s_ret rfl (hr _ (Option.some.inj h).symm _ ⟨_,fin (vs:=[B (false)]) rfl (absE (absorb_plain rfl) (absEN)) rfl (ou_f (ou_f (ou_n))),kl_n⟩)
   · refine aq 1 ?_
     refine cq 6 [5] [I ((w64 (x3 + 1)))] 273 ?_
     refine s_lp ?_
     exact rf [0,1,5] [] (ih _ _ h hr hn :)
 · refine aq 1 ?_
   exact rf [] [] (hn _ (Option.some.inj h).symm :) (hk:=hK)
theorem Ffw_run (slf_Ffu : (Condition × Condition)→Option Bool) (a_1 : List Condition) (b_2 : List Condition) (r : Bool) (h : Ffw slf_Ffu a_1 b_2=some r) : RunF (Ffw_E slf_Ffu) Tryz.f166 [false,false] 0 (Ffw_A (a_1,b_2)) (Ffw_R r):=by
 show Run _ _ (Ffw_Q slf_Ffu (a_1,b_2) r) [.code Ffw_c] _
 refine rin (n:=27) [(0,.isl false ((a_1).map encI_Condition)),(1,.isl false ((b_2).map encI_Condition))] [] 1 (by kernel_rfl) (by kernel_rfl) (by kernel_rfl) rfl ?_
 unfold Ffw at h
 refine cq 8 [6] [.isl false ((a_1).map encI_Condition)] 33 ?_
 refine oq 49 (I ((len a_1))) rfl (e_len rfl rfl rfl (l_isl rfl)) ?_
 refine cq 1 [8] [.isl false ((b_2).map encI_Condition)] 65 ?_
 refine oq 81 (I ((len b_2))) rfl (e_len rfl rfl rfl (l_isl rfl)) ?_
 refine cq 2 [10] [B (((len a_1) != (len b_2)))] 97 ?_
 refine sq h (fun h=>?_) (fun h=>?_)
 · refine cq 4 [4] [B (false)] 113 ?_
   obtain rfl:=Option.some.inj h
   exact s_ret rfl ⟨_,fin (vs:=[B (false)]) rfl (absE (absorb_plain rfl) (absEN)) rfl (ou_f (ou_f (ou_n))),kl_n⟩
 · refine aq 1 ?_
   refine cq 6 [5] [I (0)] 113 ?_
   obtain ⟨y7,hy7,hy71,hy72⟩:=bJ h
   refine s_loop rfl ?_
   refine rf [0,1,5] [] (Ffw_la_run slf_Ffu a_1 b_2 rfl 0 _ hy7 (fun r' e st hq=>by rw [hy71 r' e] at hq; exact hq) fun u7 hu=>?_)
   replace h:=hy72 u7 hu
   refine cq 4 [4] [B (true)] 17 ?_
   obtain rfl:=Option.some.inj h
   exact s_ret rfl ⟨_,fin (vs:=[B (true)]) rfl (absE (absorb_plain rfl) (absEN)) rfl (ou_f (ou_f (ou_n))),kl_n⟩
theorem Ffw_good {G : Go.Ln.Ground} (slf_Ffu : (Condition × Condition)→Option Bool) (g_Ffu : Good Tryz.prog G 139 (Ffu_entS slf_Ffu)) : Good Tryz.prog G 166 (Ffw_ent slf_Ffu):=good_T (fnOf_good (gl_c g_Ffu (gl_n))) agree_mk (Checked.mixed Tryz.checked) Tryz.func166 (n:=2) (m:=0) ⟨rfl,rfl,by decide⟩ (fun _=>⟨rfl,rfl⟩) (fun a r h=>Ffw_run slf_Ffu a.1 a.2 r h)
noncomputable def Ffu_ent : Ent:=Ffu_entS (fixO Ffu_G)
theorem Ffu_F {a_1 : Condition} {b_2 : Condition} {r} (h : Ffu a_1 b_2=some r) : Ffu_ent.F (Ffu_A (a_1,b_2))=some (Ffu_R r):=Ffu_FS (fixO Ffu_G) h
noncomputable def Ffu_c : Code:=bodyOf Tryz.f139
noncomputable def Ffu_E (slf_Ffu : (Condition × Condition)→Option Bool) : Env:=mkE Tryz.prog [(166,(Ffw_ent slf_Ffu))]
def Ffu_Q (slf_Ffu : (Condition × Condition)→Option Bool) (x : Condition × Condition) (r : Bool) : St→Prop:=QF (Ffu_E slf_Ffu) Tryz.f139 [false,false] (Ffu_A x) (Ffu_R r)
theorem Ffu_run (slf_Ffu : (Condition × Condition)→Option Bool) (a_1 : Condition) (b_2 : Condition) (r : Bool) (h : Ffu_B slf_Ffu a_1 b_2=some r) : RunF (Ffu_E slf_Ffu) Tryz.f139 [false,false] 0 (Ffu_A (a_1,b_2)) (Ffu_R r):=by
 show Run _ _ (Ffu_Q slf_Ffu (a_1,b_2) r) [.code Ffu_c] _
 refine rin (n:=26) [(0,.agg [I (a_1.Op),str (a_1.Name),I (a_1.Day),.isl false ((a_1.Parts).map encI_Condition)]),(1,.agg [I (b_2.Op),str (b_2.Name),I (b_2.Day),.isl false ((b_2.Parts).map encI_Condition)])] [] 1 (by kernel_rfl) (by kernel_rfl) (by kernel_rfl) rfl ?_
 unfold Ffu_B at h
 refine ck 15 [2,3,9] [] [1,17] [] [.hp 1 0 [] 4 0 0,.hp 17 0 [] 4 0 0,B ((a_1.Op != b_2.Op))] [some ⟨0,4,[.agg [I (a_1.Op),str (a_1.Name),I (a_1.Day),.isl false ((a_1.Parts).map encI_Condition)]]⟩,some ⟨0,4,[.agg [I (b_2.Op),str (b_2.Name),I (b_2.Day),.isl false ((b_2.Parts).map encI_Condition)]]⟩] 129 (by kernel_rfl) ?_
 refine sq h (fun h=>?_) (fun h=>?_)
 · refine cq 4 [4] [B (false)] 145 ?_
   obtain rfl:=Option.some.inj h
   exact s_ret rfl ⟨_,fin (vs:=[B (false)]) rfl (absE (absorb_plain rfl) (absEN)) rfl (ou_f (ou_f (ou_n))),kl_n⟩
 · refine aq 1 ?_
   refine cq 9 [14] [B ((!(a_1.Name == b_2.Name)))] 209 ?_
   refine sq h (fun h=>?_) (fun h=>?_)
   · refine cq 4 [4] [B (false)] 225 ?_
     obtain rfl:=Option.some.inj h
     exact s_ret rfl ⟨_,fin (vs:=[B (false)]) rfl (absE (absorb_plain rfl) (absEN)) rfl (ou_f (ou_f (ou_n))),kl_n⟩
   · refine aq 1 ?_
     refine cq 9 [19] [B ((a_1.Day != b_2.Day))] 289 ?_
     refine sq h (fun h=>?_) (fun h=>?_)
     · refine cq 4 [4] [B (false)] 305 ?_
       obtain rfl:=Option.some.inj h
       exact s_ret rfl ⟨_,fin (vs:=[B (false)]) rfl (absE (absorb_plain rfl) (absEN)) rfl (ou_f (ou_f (ou_n))),kl_n⟩
     · refine aq 1 ?_
       refine cq 7 [21,23] [.isl false ((a_1.Parts).map encI_Condition),.isl false ((b_2.Parts).map encI_Condition)] 353 ?_
       obtain ⟨r3,hr3,h⟩:=bS h
       refine oq 369 (B (r3)) rfl (e_callV rfl rfl (call_P rfl rfl rfl (avS (shP rfl) (avS (shP rfl) (avN))) (Ffw_F slf_Ffu hr3) (.inr rfl) (bl_n) rfl rfl rfl)) ?_
       refine cq 2 [25] [B ((!r3))] 385 ?_
       refine sq h (fun h=>?_) (fun h=>?_)
       · refine cq 4 [4] [B (false)] 401 ?_
         obtain rfl:=Option.some.inj h
         exact s_ret rfl ⟨_,fin (vs:=[B (false)]) rfl (absE (absorb_plain rfl) (absEN)) rfl (ou_f (ou_f (ou_n))),kl_n⟩
       · refine aq 1 ?_
         refine cq 4 [4] [B (true)] 401 ?_
         obtain rfl:=Option.some.inj h
         exact s_ret rfl ⟨_,fin (vs:=[B (true)]) rfl (absE (absorb_plain rfl) (absEN)) rfl (ou_f (ou_f (ou_n))),kl_n⟩
theorem Ffu_good {G : Go.Ln.Ground} : Good Tryz.prog G 139 Ffu_ent:=good_rec fun slf_Ffu g_Ffu=>good_T (fnOf_good (gl_c (Ffw_good slf_Ffu g_Ffu) (gl_n))) agree_mk (Checked.mixed Tryz.checked) Tryz.func139 (n:=2) (m:=0) ⟨rfl,rfl,by decide⟩ (fun _=>⟨rfl,rfl⟩) (fun a r h=>Ffu_run slf_Ffu a.1 a.2 r h)
noncomputable def Ffv_ent : Ent:=Ffw_ent (fixO Ffu_G)
theorem Ffv_F {a_1 : List Condition} {b_2 : List Condition} {r} (h : Ffv a_1 b_2=some r) : Ffv_ent.F (Ffw_A (a_1,b_2))=some (Ffw_R r):=Ffw_F (fixO Ffu_G) h
theorem Ffv_good {G : Go.Ln.Ground} : Good Tryz.prog G 166 Ffv_ent:=Ffw_good (fixO Ffu_G) Ffu_good
def Ffs_A : (Clause × Clause)→List V:=cA encI_Clause (oA encI_Clause)
def Ffs_R (r : Bool) : V × List V:=(B (r),[])
noncomputable def Ffs_ent : Ent:=entT [false,false] Ffs_A Ffs_R fun x=>Ffs x.1 x.2
theorem Ffs_F {a_1 : Clause} {b_2 : Clause} {r} (h : Ffs a_1 b_2=some r) : (Ffs_ent).F (Ffs_A (a_1,b_2))=some (Ffs_R r):=entT_F (cA_inj encI_Clause_inj (oA_inj encI_Clause_inj)) h
noncomputable def Ffs_c : Code:=bodyOf Tryz.f98
noncomputable def Ffs_E : Env:=mkE Tryz.prog [(139,Ffu_ent)]
def Ffs_Q (x : Clause × Clause) (r : Bool) : St→Prop:=QF Ffs_E Tryz.f98 [false,false] (Ffs_A x) (Ffs_R r)
theorem Ffs_run (a_1 : Clause) (b_2 : Clause) (r : Bool) (h : Ffs a_1 b_2=some r) : RunF Ffs_E Tryz.f98 [false,false] 0 (Ffs_A (a_1,b_2)) (Ffs_R r):=by
 show Run _ _ (Ffs_Q (a_1,b_2) r) [.code Ffs_c] _
 refine rin (n:=51) [(0,.agg [str (a_1.Id),I (a_1.Kind),I (a_1.Party),str (a_1.Action),I (a_1.Other),I (a_1.Amount),I (a_1.When.Op),str (a_1.When.Name),I (a_1.When.Day),.isl false ((a_1.When.Parts).map encI_Condition),I (a_1.Within),str (a_1.Repair)]),(1,.agg [str (b_2.Id),I (b_2.Kind),I (b_2.Party),str (b_2.Action),I (b_2.Other),I (b_2.Amount),I (b_2.When.Op),str (b_2.When.Name),I (b_2.When.Day),.isl false ((b_2.When.Parts).map encI_Condition),I (b_2.Within),str (b_2.Repair)])] [] 1 (by kernel_rfl) (by kernel_rfl) (by kernel_rfl) rfl ?_
 unfold Ffs at h
 refine ck 15 [2,3,9] [] [1,17] [] [.hp 1 0 [] 12 0 0,.hp 17 0 [] 12 0 0,B ((!(a_1.Id == b_2.Id)))] [some ⟨0,12,[.agg [str (a_1.Id),I (a_1.Kind),I (a_1.Party),str (a_1.Action),I (a_1.Other),I (a_1.Amount),I (a_1.When.Op),str (a_1.When.Name),I (a_1.When.Day),.isl false ((a_1.When.Parts).map encI_Condition),I (a_1.Within),str (a_1.Repair)]]⟩,some ⟨0,12,[.agg [str (b_2.Id),I (b_2.Kind),I (b_2.Party),str (b_2.Action),I (b_2.Other),I (b_2.Amount),I (b_2.When.Op),str (b_2.When.Name),I (b_2.When.Day),.isl false ((b_2.When.Parts).map encI_Condition),I (b_2.Within),str (b_2.Repair)]]⟩] 129 (by kernel_rfl) ?_
 refine sq h (fun h=>?_) (fun h=>?_)
 · refine cq 4 [4] [B (false)] 145 ?_
   obtain rfl:=Option.some.inj h
   exact s_ret rfl ⟨_,fin (vs:=[B (false)]) rfl (absE (absorb_plain rfl) (absEN)) rfl (ou_f (ou_f (ou_n))),kl_n⟩
 · refine aq 1 ?_
   refine cq 9 [14] [B ((a_1.Kind != b_2.Kind))] 209 ?_
   refine sq h (fun h=>?_) (fun h=>?_)
   · refine cq 4 [4] [B (false)] 225 ?_
     obtain rfl:=Option.some.inj h
     exact s_ret rfl ⟨_,fin (vs:=[B (false)]) rfl (absE (absorb_plain rfl) (absEN)) rfl (ou_f (ou_f (ou_n))),kl_n⟩
   · refine aq 1 ?_
     refine cq 9 [19] [B ((a_1.Party != b_2.Party))] 289 ?_
     refine sq h (fun h=>?_) (fun h=>?_)
     · refine cq 4 [4] [B (false)] 305 ?_
       obtain rfl:=Option.some.inj h
       exact s_ret rfl ⟨_,fin (vs:=[B (false)]) rfl (absE (absorb_plain rfl) (absEN)) rfl (ou_f (ou_f (ou_n))),kl_n⟩
     · refine aq 1 ?_
       refine cq 9 [24] [B ((!(a_1.Action == b_2.Action)))] 369 ?_
       refine sq h (fun h=>?_) (fun h=>?_)
       · refine cq 4 [4] [B (false)] 385 ?_
         obtain rfl:=Option.some.inj h
         exact s_ret rfl ⟨_,fin (vs:=[B (false)]) rfl (absE (absorb_plain rfl) (absEN)) rfl (ou_f (ou_f (ou_n))),kl_n⟩
       · refine aq 1 ?_
         refine cq 9 [29] [B ((a_1.Other != b_2.Other))] 449 ?_
         refine sq h (fun h=>?_) (fun h=>?_)
         · refine cq 4 [4] [B (false)] 465 ?_
           obtain rfl:=Option.some.inj h
           exact s_ret rfl ⟨_,fin (vs:=[B (false)]) rfl (absE (absorb_plain rfl) (absEN)) rfl (ou_f (ou_f (ou_n))),kl_n⟩
         · refine aq 1 ?_
           refine cq 9 [34] [B ((a_1.Amount != b_2.Amount))] 529 ?_
           refine sq h (fun h=>?_) (fun h=>?_)
           · refine cq 4 [4] [B (false)] 545 ?_
             obtain rfl:=Option.some.inj h
             exact s_ret rfl ⟨_,fin (vs:=[B (false)]) rfl (absE (absorb_plain rfl) (absEN)) rfl (ou_f (ou_f (ou_n))),kl_n⟩
           · refine aq 1 ?_
             refine cq 7 [36,38] [.agg [I (a_1.When.Op),str (a_1.When.Name),I (a_1.When.Day),.isl false ((a_1.When.Parts).map encI_Condition)],.agg [I (b_2.When.Op),str (b_2.When.Name),I (b_2.When.Day),.isl false ((b_2.When.Parts).map encI_Condition)]] 593 ?_
             obtain ⟨r3,hr3,h⟩:=bS h
             refine oq 609 (B (r3)) rfl (e_callV rfl rfl (call_P rfl rfl rfl (avS (shP rfl) (avS (shP rfl) (avN))) (Ffu_F hr3) (.inr rfl) (bl_n) rfl rfl rfl)) ?_
             refine cq 2 [40] [B ((!r3))] 625 ?_
             refine sq h (fun h=>?_) (fun h=>?_)
             · refine cq 4 [4] [B (false)] 641 ?_
               obtain rfl:=Option.some.inj h
               exact s_ret rfl ⟨_,fin (vs:=[B (false)]) rfl (absE (absorb_plain rfl) (absEN)) rfl (ou_f (ou_f (ou_n))),kl_n⟩
             · refine aq 1 ?_
               refine cq 9 [45] [B ((a_1.Within != b_2.Within))] 705 ?_
               refine sq h (fun h=>?_) (fun h=>?_)
               · refine cq 4 [4] [B (false)] 721 ?_
                 obtain rfl:=Option.some.inj h
                 exact s_ret rfl ⟨_,fin (vs:=[B (false)]) rfl (absE (absorb_plain rfl) (absEN)) rfl (ou_f (ou_f (ou_n))),kl_n⟩
               · refine aq 1 ?_
                 refine cq 9 [50] [B ((!(a_1.Repair == b_2.Repair)))] 785 ?_
                 refine sq h (fun h=>?_) (fun h=>?_)
                 · refine cq 4 [4] [B (false)] 801 ?_
                   obtain rfl:=Option.some.inj h
                   exact s_ret rfl ⟨_,fin (vs:=[B (false)]) rfl (absE (absorb_plain rfl) (absEN)) rfl (ou_f (ou_f (ou_n))),kl_n⟩
                 · refine aq 1 ?_
                   refine cq 4 [4] [B (true)] 801 ?_
                   obtain rfl:=Option.some.inj h
                   exact s_ret rfl ⟨_,fin (vs:=[B (true)]) rfl (absE (absorb_plain rfl) (absEN)) rfl (ou_f (ou_f (ou_n))),kl_n⟩
theorem Ffs_good {G : Go.Ln.Ground} : Good Tryz.prog G 98 Ffs_ent:=good_T (fnOf_good (gl_c Ffu_good (gl_n))) agree_mk (Checked.mixed Tryz.checked) Tryz.func98 (n:=2) (m:=0) ⟨rfl,rfl,by decide⟩ (fun _=>⟨rfl,rfl⟩) (fun a r h=>Ffs_run a.1 a.2 r h)
def Fft_A : ((List Clause) × (List Clause))→List V:=cA (slE encI_Clause) (oA (slE encI_Clause))
def Fft_R (r : Bool) : V × List V:=(B (r),[])
noncomputable def Fft_ent : Ent:=entT [false,false] Fft_A Fft_R fun x=>Fft x.1 x.2
theorem Fft_F {a_1 : List Clause} {b_2 : List Clause} {r} (h : Fft a_1 b_2=some r) : (Fft_ent).F (Fft_A (a_1,b_2))=some (Fft_R r):=entT_F (cA_inj (isl_inj encI_Clause_inj) (oA_inj (isl_inj encI_Clause_inj))) h
noncomputable def Fft_c : Code:=bodyOf Tryz.f57
noncomputable def Fft_E : Env:=mkE Tryz.prog [(98,Ffs_ent)]
def Fft_Q (x : (List Clause) × (List Clause)) (r : Bool) : St→Prop:=QF Fft_E Tryz.f57 [false,false] (Fft_A x) (Fft_R r)
theorem Fft_la_run (a_1 : List Clause) (b_2 : List Clause)  {Q : St→Prop} {K : List It} (hK : noD K=true) : ∀ (x3 : Int) (y : Bool ⊕ Unit),Fft_la a_1 b_2 x3=some y→(∀ r',y=.inl r'→∀ st,Fft_Q (a_1,b_2) r' st→Q st)→(∀ u : Unit,y=.inr u→Run Fft_E 0 Q K (sT 27 [] [] 1))→Run Fft_E 0 Q (.code (cL (cL (cR (cL (cR (cR Fft_c)))))) :: .lp (cL (cL (cR (cL (cR (cR Fft_c)))))) :: .blk 0 :: K) (sT 27 [(0,.isl false ((a_1).map encI_Clause)),(1,.isl false ((b_2).map encI_Clause)),(5,I (x3))] [] 1):=by
 refine fix_indP (Fft_la_fin a_1 b_2) ?_
 intro self ih x3 y h hr hn
 unfold Fft_la_F at h
 refine cq 5 [11,12] [I (x3),.isl false ((a_1).map encI_Clause)] 33 ?_
 refine oq 49 (I ((len a_1))) rfl (e_len rfl rfl rfl (l_isl rfl)) ?_
 refine cq 2 [14] [B ((decide (x3 < (len a_1))))] 65 ?_
 refine sq h (fun h=>?_) (fun h=>?_)
 · refine aq 1 ?_
   refine aq 3 ?_
   refine s_draw [0,0,3,7,0,0,48,112,255,511] rfl (by decide +kernel) ?_
   refine dk 2 [18,17] [I (x3),.isl false ((a_1).map encI_Clause)] ?_
   obtain ⟨e4,he4,h⟩:=bS h
   refine dq [] [] (.iptr (.agg [str (e4.Id),I (e4.Kind),I (e4.Party),str (e4.Action),I (e4.Other),I (e4.Amount),I (e4.When.Op),str (e4.When.Name),I (e4.When.Day),.isl false ((e4.When.Parts).map encI_Condition),I (e4.Within),str (e4.Repair)]) 0) rfl (e_indexAddr rfl rfl rfl (ix_islE rfl rfl rfl rfl he4)) ?_
   refine dq [] [] (.agg [str (e4.Id),I (e4.Kind),I (e4.Party),str (e4.Action),I (e4.Other),I (e4.Amount),I (e4.When.Op),str (e4.When.Name),I (e4.When.Day),.isl false ((e4.When.Parts).map encI_Condition),I (e4.Within),str (e4.Repair)]) rfl (e_ld rfl rfl) ?_
   refine dk 2 [22,21] [I (x3),.isl false ((b_2).map encI_Clause)] ?_
   obtain ⟨e5,he5,h⟩:=bS h
   refine dq [] [] (.iptr (.agg [str (e5.Id),I (e5.Kind),I (e5.Party),str (e5.Action),I (e5.Other),I (e5.Amount),I (e5.When.Op),str (e5.When.Name),I (e5.When.Day),.isl false ((e5.When.Parts).map encI_Condition),I (e5.Within),str (e5.Repair)]) 0) rfl (e_indexAddr rfl rfl rfl (ix_islE rfl rfl rfl rfl he5)) ?_
   refine dq [] [] (.agg [str (e5.Id),I (e5.Kind),I (e5.Party),str (e5.Action),I (e5.Other),I (e5.Amount),I (e5.When.Op),str (e5.When.Name),I (e5.When.Day),.isl false ((e5.When.Parts).map encI_Condition),I (e5.Within),str (e5.Repair)]) rfl (e_ld rfl rfl) ?_
   obtain ⟨r6,hr6,h⟩:=bS h
   refine dq [] [] (B (r6)) rfl (e_callV rfl rfl (call_P rfl rfl rfl (avS (shP rfl) (avS (shP rfl) (avN))) (Ffs_F hr6) (.inr rfl) (bl_n) rfl rfl rfl)) ?_ (w_callO rfl rfl rfl rfl (avS (shP rfl) (avS (shP rfl) (avN))) (Ffs_F hr6) (.inr rfl) rfl)
   refine dk 1 [26] [B ((!r6))] ?_
   refine de 225 rfl rfl ?_
   refine sq h (fun h=>?_) (fun h=>?_)
   · refine cq 4 [4] [B (false)] 241 ?_
     exact s_ret rfl (hr _ (Option.some.inj h).symm _ ⟨_,fin (vs:=[B (false)]) rfl (absE (absorb_plain rfl) (absEN)) rfl (ou_f (ou_f (ou_n))),kl_n⟩)
   · refine aq 1 ?_
     refine cq 6 [5] [I ((w64 (x3 + 1)))] 273 ?_
     refine s_lp ?_
     exact rf [0,1,5] [] (ih _ _ h hr hn :)
 · refine aq 1 ?_
   exact rf [] [] (hn _ (Option.some.inj h).symm :) (hk:=hK)
theorem Fft_run (a_1 : List Clause) (b_2 : List Clause) (r : Bool) (h : Fft a_1 b_2=some r) : RunF Fft_E Tryz.f57 [false,false] 0 (Fft_A (a_1,b_2)) (Fft_R r):=by
 show Run _ _ (Fft_Q (a_1,b_2) r) [.code Fft_c] _
 refine rin (n:=27) [(0,.isl false ((a_1).map encI_Clause)),(1,.isl false ((b_2).map encI_Clause))] [] 1 (by kernel_rfl) (by kernel_rfl) (by kernel_rfl) rfl ?_
 unfold Fft at h
 refine cq 8 [6] [.isl false ((a_1).map encI_Clause)] 33 ?_
 refine oq 49 (I ((len a_1))) rfl (e_len rfl rfl rfl (l_isl rfl)) ?_
 refine cq 1 [8] [.isl false ((b_2).map encI_Clause)] 65 ?_
 refine oq 81 (I ((len b_2))) rfl (e_len rfl rfl rfl (l_isl rfl)) ?_
 refine cq 2 [10] [B (((len a_1) != (len b_2)))] 97 ?_
 refine sq h (fun h=>?_) (fun h=>?_)
 · refine cq 4 [4] [B (false)] 113 ?_
   obtain rfl:=Option.some.inj h
   exact s_ret rfl ⟨_,fin (vs:=[B (false)]) rfl (absE (absorb_plain rfl) (absEN)) rfl (ou_f (ou_f (ou_n))),kl_n⟩
 · refine aq 1 ?_
   refine cq 6 [5] [I (0)] 113 ?_
   obtain ⟨y7,hy7,hy71,hy72⟩:=bJ h
   refine s_loop rfl ?_
   refine rf [0,1,5] [] (Fft_la_run a_1 b_2 rfl 0 _ hy7 (fun r' e st hq=>by rw [hy71 r' e] at hq; exact hq) fun u7 hu=>?_)
   replace h:=hy72 u7 hu
   refine cq 4 [4] [B (true)] 17 ?_
   obtain rfl:=Option.some.inj h
   exact s_ret rfl ⟨_,fin (vs:=[B (true)]) rfl (absE (absorb_plain rfl) (absEN)) rfl (ou_f (ou_f (ou_n))),kl_n⟩
theorem Fft_good {G : Go.Ln.Ground} : Good Tryz.prog G 57 Fft_ent:=good_T (fnOf_good (gl_c Ffs_good (gl_n))) agree_mk (Checked.mixed Tryz.checked) Tryz.func57 (n:=2) (m:=0) ⟨rfl,rfl,by decide⟩ (fun _=>⟨rfl,rfl⟩) (fun a r h=>Fft_run a.1 a.2 r h)
def Ffx_A : (Contract × Contract)→List V:=cA encI_Contract (oA encI_Contract)
def Ffx_R (r : Bool) : V × List V:=(B (r),[])
noncomputable def Ffx_ent : Ent:=entT [false,false] Ffx_A Ffx_R fun x=>Ffx x.1 x.2
theorem Ffx_F {a_1 : Contract} {b_2 : Contract} {r} (h : Ffx a_1 b_2=some r) : (Ffx_ent).F (Ffx_A (a_1,b_2))=some (Ffx_R r):=entT_F (cA_inj encI_Contract_inj (oA_inj encI_Contract_inj)) h
noncomputable def Ffx_c : Code:=bodyOf Tryz.f16
noncomputable def Ffx_E : Env:=mkE Tryz.prog [(56,Ffba_ent),(57,Fft_ent)]
def Ffx_Q (x : Contract × Contract) (r : Bool) : St→Prop:=QF Ffx_E Tryz.f16 [false,false] (Ffx_A x) (Ffx_R r)
theorem Ffx_run (a_1 : Contract) (b_2 : Contract) (r : Bool) (h : Ffx a_1 b_2=some r) : RunF Ffx_E Tryz.f16 [false,false] 0 (Ffx_A (a_1,b_2)) (Ffx_R r):=by
 show Run _ _ (Ffx_Q (a_1,b_2) r) [.code Ffx_c] _
 refine rin (n:=17) [(0,.agg [.isl false ((a_1.Parties).map str),.isl false ((a_1.Clauses).map encI_Clause)]),(1,.agg [.isl false ((b_2.Parties).map str),.isl false ((b_2.Clauses).map encI_Clause)])] [] 1 (by kernel_rfl) (by kernel_rfl) (by kernel_rfl) rfl ?_
 unfold Ffx at h
 refine ck 13 [2,3,6,8] [] [1,17] [] [.hp 1 0 [] 2 0 0,.hp 17 0 [] 2 0 0,.isl false ((a_1.Parties).map str),.isl false ((b_2.Parties).map str)] [some ⟨0,2,[.agg [.isl false ((a_1.Parties).map str),.isl false ((a_1.Clauses).map encI_Clause)]]⟩,some ⟨0,2,[.agg [.isl false ((b_2.Parties).map str),.isl false ((b_2.Clauses).map encI_Clause)]]⟩] 113 (by kernel_rfl) ?_
 obtain ⟨r3,hr3,h⟩:=bS h
 refine oq 129 (B (r3)) rfl (e_callV rfl rfl (call_P rfl rfl rfl (avS (shP rfl) (avS (shP rfl) (avN))) (Ffba_F hr3) (.inr rfl) (bl_n) rfl rfl rfl)) ?_
 refine cq 2 [10] [B ((!r3))] 145 ?_
 refine sq h (fun h=>?_) (fun h=>?_)
 · refine cq 4 [4] [B (false)] 161 ?_
   obtain rfl:=Option.some.inj h
   exact s_ret rfl ⟨_,fin (vs:=[B (false)]) rfl (absE (absorb_plain rfl) (absEN)) rfl (ou_f (ou_f (ou_n))),kl_n⟩
 · refine aq 1 ?_
   refine cq 7 [12,14] [.isl false ((a_1.Clauses).map encI_Clause),.isl false ((b_2.Clauses).map encI_Clause)] 209 ?_
   obtain ⟨r4,hr4,h⟩:=bS h
   refine oq 225 (B (r4)) rfl (e_callV rfl rfl (call_P rfl rfl rfl (avS (shP rfl) (avS (shP rfl) (avN))) (Fft_F hr4) (.inr rfl) (bl_n) rfl rfl rfl)) ?_
   refine cq 2 [16] [B ((!r4))] 241 ?_
   refine sq h (fun h=>?_) (fun h=>?_)
   · refine cq 4 [4] [B (false)] 257 ?_
     obtain rfl:=Option.some.inj h
     exact s_ret rfl ⟨_,fin (vs:=[B (false)]) rfl (absE (absorb_plain rfl) (absEN)) rfl (ou_f (ou_f (ou_n))),kl_n⟩
   · refine aq 1 ?_
     refine cq 4 [4] [B (true)] 257 ?_
     obtain rfl:=Option.some.inj h
     exact s_ret rfl ⟨_,fin (vs:=[B (true)]) rfl (absE (absorb_plain rfl) (absEN)) rfl (ou_f (ou_f (ou_n))),kl_n⟩
theorem Ffx_good {G : Go.Ln.Ground} : Good Tryz.prog G 16 Ffx_ent:=good_T (fnOf_good (gl_c Ffba_good (gl_c Fft_good (gl_n)))) agree_mk (Checked.mixed Tryz.checked) Tryz.func16 (n:=2) (m:=0) ⟨rfl,rfl,by decide⟩ (fun _=>⟨rfl,rfl⟩) (fun a r h=>Ffx_run a.1 a.2 r h)
def Ffy_A : (Entry × Entry)→List V:=cA enc_Entry (oA enc_Entry)
def Ffy_R (r : Bool) : V × List V:=(B (r),[])
noncomputable def Ffy_ent : Ent:=entT [false,false] Ffy_A Ffy_R fun x=>Ffy x.1 x.2
theorem Ffy_F {a_1 : Entry} {b_2 : Entry} {r} (h : Ffy a_1 b_2=some r) : (Ffy_ent).F (Ffy_A (a_1,b_2))=some (Ffy_R r):=entT_F (cA_inj enc_Entry_inj (oA_inj enc_Entry_inj)) h
noncomputable def Ffy_c : Code:=bodyOf Tryz.f58
noncomputable def Ffy_E : Env:=mkE Tryz.prog []
def Ffy_Q (x : Entry × Entry) (r : Bool) : St→Prop:=QF Ffy_E Tryz.f58 [false,false] (Ffy_A x) (Ffy_R r)
theorem Ffy_run (a_1 : Entry) (b_2 : Entry) (r : Bool) (h : Ffy a_1 b_2=some r) : RunF Ffy_E Tryz.f58 [false,false] 0 (Ffy_A (a_1,b_2)) (Ffy_R r):=by
 show Run _ _ (Ffy_Q (a_1,b_2) r) [.code Ffy_c] _
 refine rin (n:=25) [(0,enc_Entry a_1),(1,enc_Entry b_2)] [] 1 (by kernel_rfl) (by kernel_rfl) (by kernel_rfl) rfl ?_
 unfold Ffy at h
 refine ck 15 [2,3,9] [] [1,17] [] [.hp 1 0 [] 4 0 0,.hp 17 0 [] 4 0 0,B ((a_1.Day != b_2.Day))] [some ⟨0,4,[enc_Entry a_1]⟩,some ⟨0,4,[enc_Entry b_2]⟩] 129 (by kernel_rfl) ?_
 refine sq h (fun h=>?_) (fun h=>?_)
 · refine cq 4 [4] [B (false)] 145 ?_
   obtain rfl:=Option.some.inj h
   exact s_ret rfl ⟨_,fin (vs:=[B (false)]) rfl (absE (absorb_plain rfl) (absEN)) rfl (ou_f (ou_f (ou_n))),kl_n⟩
 · refine aq 1 ?_
   refine cq 9 [14] [B ((a_1.Kind != b_2.Kind))] 209 ?_
   refine sq h (fun h=>?_) (fun h=>?_)
   · refine cq 4 [4] [B (false)] 225 ?_
     obtain rfl:=Option.some.inj h
     exact s_ret rfl ⟨_,fin (vs:=[B (false)]) rfl (absE (absorb_plain rfl) (absEN)) rfl (ou_f (ou_f (ou_n))),kl_n⟩
   · refine aq 1 ?_
     refine cq 9 [19] [B ((a_1.Clause != b_2.Clause))] 289 ?_
     refine sq h (fun h=>?_) (fun h=>?_)
     · refine cq 4 [4] [B (false)] 305 ?_
       obtain rfl:=Option.some.inj h
       exact s_ret rfl ⟨_,fin (vs:=[B (false)]) rfl (absE (absorb_plain rfl) (absEN)) rfl (ou_f (ou_f (ou_n))),kl_n⟩
     · refine aq 1 ?_
       refine cq 9 [24] [B ((a_1.Party != b_2.Party))] 369 ?_
       refine sq h (fun h=>?_) (fun h=>?_)
       · refine cq 4 [4] [B (false)] 385 ?_
         obtain rfl:=Option.some.inj h
         exact s_ret rfl ⟨_,fin (vs:=[B (false)]) rfl (absE (absorb_plain rfl) (absEN)) rfl (ou_f (ou_f (ou_n))),kl_n⟩
       · refine aq 1 ?_
         refine cq 4 [4] [B (true)] 385 ?_
         obtain rfl:=Option.some.inj h
         exact s_ret rfl ⟨_,fin (vs:=[B (true)]) rfl (absE (absorb_plain rfl) (absEN)) rfl (ou_f (ou_f (ou_n))),kl_n⟩
theorem Ffy_good {G : Go.Ln.Ground} : Good Tryz.prog G 58 Ffy_ent:=good_T (fnOf_good (gl_n)) agree_mk (Checked.mixed Tryz.checked) Tryz.func58 (n:=2) (m:=0) ⟨rfl,rfl,by decide⟩ (fun _=>⟨rfl,rfl⟩) (fun a r h=>Ffy_run a.1 a.2 r h)
def Ffz_A : ((List Entry) × (List Entry))→List V:=cA (slE enc_Entry) (oA (slE enc_Entry))
def Ffz_R (r : Bool) : V × List V:=(B (r),[])
noncomputable def Ffz_ent : Ent:=entT [false,false] Ffz_A Ffz_R fun x=>Ffz x.1 x.2
theorem Ffz_F {a_1 : List Entry} {b_2 : List Entry} {r} (h : Ffz a_1 b_2=some r) : (Ffz_ent).F (Ffz_A (a_1,b_2))=some (Ffz_R r):=entT_F (cA_inj (isl_inj enc_Entry_inj) (oA_inj (isl_inj enc_Entry_inj))) h
noncomputable def Ffz_c : Code:=bodyOf Tryz.f17
noncomputable def Ffz_E : Env:=mkE Tryz.prog [(58,Ffy_ent)]
def Ffz_Q (x : (List Entry) × (List Entry)) (r : Bool) : St→Prop:=QF Ffz_E Tryz.f17 [false,false] (Ffz_A x) (Ffz_R r)
theorem Ffz_la_run (a_1 : List Entry) (b_2 : List Entry)  {Q : St→Prop} {K : List It} (hK : noD K=true) : ∀ (x3 : Int) (y : Bool ⊕ Unit),Ffz_la a_1 b_2 x3=some y→(∀ r',y=.inl r'→∀ st,Ffz_Q (a_1,b_2) r' st→Q st)→(∀ u : Unit,y=.inr u→Run Ffz_E 0 Q K (sT 27 [] [] 1))→Run Ffz_E 0 Q (.code (cL (cL (cR (cL (cR (cR Ffz_c)))))) :: .lp (cL (cL (cR (cL (cR (cR Ffz_c)))))) :: .blk 0 :: K) (sT 27 [(0,.isl false ((a_1).map enc_Entry)),(1,.isl false ((b_2).map enc_Entry)),(5,I (x3))] [] 1):=by
 refine fix_indP (Ffz_la_fin a_1 b_2) ?_
 intro self ih x3 y h hr hn
 unfold Ffz_la_F at h
 refine cq 5 [11,12] [I (x3),.isl false ((a_1).map enc_Entry)] 33 ?_
 refine oq 49 (I ((len a_1))) rfl (e_len rfl rfl rfl (l_isl rfl)) ?_
 refine cq 2 [14] [B ((decide (x3 < (len a_1))))] 65 ?_
 refine sq h (fun h=>?_) (fun h=>?_)
 · refine aq 1 ?_
   refine aq 3 ?_
   refine s_draw [0,0,3,7,0,0,48,112,255,511] rfl (by decide +kernel) ?_
   refine dk 2 [18,17] [I (x3),.isl false ((a_1).map enc_Entry)] ?_
   obtain ⟨e4,he4,h⟩:=bS h
   refine dq [] [] (.iptr (enc_Entry e4) 0) rfl (e_indexAddr rfl rfl rfl (ix_islE rfl rfl rfl rfl he4)) ?_
   refine dq [] [] (enc_Entry e4) rfl (e_ld rfl rfl) ?_
   refine dk 2 [22,21] [I (x3),.isl false ((b_2).map enc_Entry)] ?_
   obtain ⟨e5,he5,h⟩:=bS h
   refine dq [] [] (.iptr (enc_Entry e5) 0) rfl (e_indexAddr rfl rfl rfl (ix_islE rfl rfl rfl rfl he5)) ?_
   refine dq [] [] (enc_Entry e5) rfl (e_ld rfl rfl) ?_
   obtain ⟨r6,hr6,h⟩:=bS h
   refine dq [] [] (B (r6)) rfl (e_callV rfl rfl (call_P rfl rfl rfl (avS (shP rfl) (avS (shP rfl) (avN))) (Ffy_F hr6) (.inr rfl) (bl_n) rfl rfl rfl)) ?_ (w_callO rfl rfl rfl rfl (avS (shP rfl) (avS (shP rfl) (avN))) (Ffy_F hr6) (.inr rfl) rfl)
   refine dk 1 [26] [B ((!r6))] ?_
   refine de 225 rfl rfl ?_
   refine sq h (fun h=>?_) (fun h=>?_)
   · refine cq 4 [4] [B (false)] 241 ?_
     exact s_ret rfl (hr _ (Option.some.inj h).symm _ ⟨_,fin (vs:=[B (false)]) rfl (absE (absorb_plain rfl) (absEN)) rfl (ou_f (ou_f (ou_n))),kl_n⟩)
   · refine aq 1 ?_
     refine cq 6 [5] [I ((w64 (x3 + 1)))] 273 ?_
     refine s_lp ?_
     exact rf [0,1,5] [] (ih _ _ h hr hn :)
 · refine aq 1 ?_
   exact rf [] [] (hn _ (Option.some.inj h).symm :) (hk:=hK)
theorem Ffz_run (a_1 : List Entry) (b_2 : List Entry) (r : Bool) (h : Ffz a_1 b_2=some r) : RunF Ffz_E Tryz.f17 [false,false] 0 (Ffz_A (a_1,b_2)) (Ffz_R r):=by
 show Run _ _ (Ffz_Q (a_1,b_2) r) [.code Ffz_c] _
 refine rin (n:=27) [(0,.isl false ((a_1).map enc_Entry)),(1,.isl false ((b_2).map enc_Entry))] [] 1 (by kernel_rfl) (by kernel_rfl) (by kernel_rfl) rfl ?_
 unfold Ffz at h
 refine cq 8 [6] [.isl false ((a_1).map enc_Entry)] 33 ?_
 refine oq 49 (I ((len a_1))) rfl (e_len rfl rfl rfl (l_isl rfl)) ?_
 refine cq 1 [8] [.isl false ((b_2).map enc_Entry)] 65 ?_
 refine oq 81 (I ((len b_2))) rfl (e_len rfl rfl rfl (l_isl rfl)) ?_
 refine cq 2 [10] [B (((len a_1) != (len b_2)))] 97 ?_
 refine sq h (fun h=>?_) (fun h=>?_)
 · refine cq 4 [4] [B (false)] 113 ?_
   obtain rfl:=Option.some.inj h
   exact s_ret rfl ⟨_,fin (vs:=[B (false)]) rfl (absE (absorb_plain rfl) (absEN)) rfl (ou_f (ou_f (ou_n))),kl_n⟩
 · refine aq 1 ?_
   refine cq 6 [5] [I (0)] 113 ?_
   obtain ⟨y7,hy7,hy71,hy72⟩:=bJ h
   refine s_loop rfl ?_
   refine rf [0,1,5] [] (Ffz_la_run a_1 b_2 rfl 0 _ hy7 (fun r' e st hq=>by rw [hy71 r' e] at hq; exact hq) fun u7 hu=>?_)
   replace h:=hy72 u7 hu
   refine cq 4 [4] [B (true)] 17 ?_
   obtain rfl:=Option.some.inj h
   exact s_ret rfl ⟨_,fin (vs:=[B (true)]) rfl (absE (absorb_plain rfl) (absEN)) rfl (ou_f (ou_f (ou_n))),kl_n⟩
theorem Ffz_good {G : Go.Ln.Ground} : Good Tryz.prog G 17 Ffz_ent:=good_T (fnOf_good (gl_c Ffy_good (gl_n))) agree_mk (Checked.mixed Tryz.checked) Tryz.func17 (n:=2) (m:=0) ⟨rfl,rfl,by decide⟩ (fun _=>⟨rfl,rfl⟩) (fun a r h=>Ffz_run a.1 a.2 r h)
def laws_FnExactFirstBreach_A : (Contract × (List Entry))→List V:=cA encI_Contract (oA (slE enc_Entry))
def laws_FnExactFirstBreach_R (r : Bool) : V × List V:=(B (r),[])
noncomputable def laws_FnExactFirstBreach_ent : Ent:=entT [false,false] laws_FnExactFirstBreach_A laws_FnExactFirstBreach_R fun x=>laws_FnExactFirstBreach x.1 x.2
theorem laws_FnExactFirstBreach_F {aC_1 : Contract} {aTrace_2 : List Entry} {r} (h : laws_FnExactFirstBreach aC_1 aTrace_2=some r) : (laws_FnExactFirstBreach_ent).F (laws_FnExactFirstBreach_A (aC_1,aTrace_2))=some (laws_FnExactFirstBreach_R r):=entT_F (cA_inj encI_Contract_inj (oA_inj (isl_inj enc_Entry_inj))) h
noncomputable def laws_FnExactFirstBreach_c : Code:=bodyOf Tryz.f3
noncomputable def laws_FnExactFirstBreach_E : Env:=mkE Tryz.prog [(10,Ffbg_ent),(11,Ffbh_ent),(13,Ffbo_ent),(14,Ffbq_ent),(12,Ffca_ent),(15,Ffa_ent),(16,Ffx_ent),(17,Ffz_ent)]
def laws_FnExactFirstBreach_Q (x : Contract × (List Entry)) (r : Bool) : St→Prop:=QF laws_FnExactFirstBreach_E Tryz.f3 [false,false] (laws_FnExactFirstBreach_A x) (laws_FnExactFirstBreach_R r)
theorem laws_FnExactFirstBreach_run (aC_1 : Contract) (aTrace_2 : List Entry) (r : Bool) (h : laws_FnExactFirstBreach aC_1 aTrace_2=some r) : RunF laws_FnExactFirstBreach_E Tryz.f3 [false,false] 0 (laws_FnExactFirstBreach_A (aC_1,aTrace_2)) (laws_FnExactFirstBreach_R r):=by
 show Run _ _ (laws_FnExactFirstBreach_Q (aC_1,aTrace_2) r) [.code laws_FnExactFirstBreach_c] _
 refine rin (n:=58) [(0,encI_Contract aC_1),(1,.isl false ((aTrace_2).map enc_Entry))] [] 1 (by kernel_rfl) (by kernel_rfl) (by kernel_rfl) rfl ?_
 unfold laws_FnExactFirstBreach at h
 refine ck 13 [2,12,13] [] [1] [] [.hp 1 0 [] 2 0 0,encI_Contract aC_1,I (1048576)] [some ⟨0,2,[encI_Contract aC_1]⟩] 81 (by kernel_rfl) ?_
 obtain ⟨r3,hr3,h⟩:=bS h
 refine oq 97 (I (r3)) rfl (e_callV rfl rfl (call_P rfl rfl rfl (avS (shP rfl) (avS (shP rfl) (avN))) (Ffbg_F hr3) (.inr rfl) (bl_n) rfl rfl rfl)) ?_
 refine cq 8 [5,16] [I (r3),B ((decide (r3 < 0)))] 145 ?_
 refine sq h (fun h=>?_) (fun h=>?_)
 · refine cq 4 [4] [B (true)] 161 ?_
   obtain rfl:=Option.some.inj h
   exact s_ret rfl ⟨_,fin (vs:=[B (true)]) rfl (absE (absorb_plain rfl) (absEN)) rfl (ou_f (ou_f (ou_n))),kl_n⟩
 · refine aq 1 ?_
   refine cq 4 [17,18] [.isl false ((aTrace_2).map enc_Entry),I (r3)] 177 ?_
   obtain ⟨r4,hr4,h⟩:=bS h
   refine oq 193 (I (r4)) rfl (e_callV rfl rfl (call_P rfl rfl rfl (avS (shP rfl) (avS (shP rfl) (avN))) (Ffbh_F hr4) (.inr rfl) (bl_n) rfl rfl rfl)) ?_
   refine ck 8 [21] [5] [] [] [B ((decide (r4 < 0)))] [] 241 (by kernel_rfl) ?_
   refine sq h (fun h=>?_) (fun h=>?_)
   · refine cq 4 [4] [B (true)] 257 ?_
     obtain rfl:=Option.some.inj h
     exact s_ret rfl ⟨_,fin (vs:=[B (true)]) rfl (absE (absorb_plain rfl) (absEN)) rfl (ou_f (ou_f (ou_n))),kl_n⟩
   · refine aq 1 ?_
     refine cq 3 [23] [encI_Contract aC_1] 257 ?_
     obtain ⟨r5,hr5,h⟩:=bS h
     refine oq 273 (.agg [.hs 257 0 [] 1 0 ((r5.Parties).map str).length,.hs 258 0 [] 12 0 ((r5.Clauses).map encO_Clause).length]) rfl (e_callV rfl rfl (call_P rfl rfl rfl (avS (shP rfl) (avN)) (Ffbo_F hr5) (.inr rfl) (bl_n) rfl rfl rfl)) ?_
     refine cq 1 [25] [.isl false ((aTrace_2).map enc_Entry)] 289 ?_
     obtain ⟨r6,hr6,h⟩:=bS h
     refine oq 305 (.hs 289 0 [] 4 0 ((r6).map enc_Entry).length) rfl (e_callV rfl rfl (call_P rfl rfl rfl (avS (shP rfl) (avN)) (Ffbq_F hr6) (.inr rfl) (bl_n) rfl rfl rfl)) ?_
     obtain ⟨r7,hr7,h⟩:=bS h
     refine oq 321 (.tup [I (r7.1),B (r7.2)]) rfl (e_callV rfl rfl (call_P rfl rfl rfl (avS (shA (shC (sh_hsM (f:=str) (g:=str) (xs:=r5.Parties) rfl rfl (imms_of str_imm)) (shC (sh_hsM (f:=encO_Clause) (g:=encI_Clause) (xs:=r5.Clauses) rfl rfl (imms_of encO_Clause_imm)) (shN)))) (avS (sh1 rfl rfl (sh_hsM (f:=enc_Entry) (g:=enc_Entry) (xs:=r6) rfl rfl (imms_of enc_Entry_imm))) (avN))) (Ffca_F hr7) (.inl (rfl)) (bl_n) rfl rfl rfl)) ?_
     refine cq 9 [6,7,30] [I (r7.1),B (r7.2),encI_Contract aC_1] 417 ?_
     obtain ⟨r8,hr8,h⟩:=bS h
     refine oq 433 (.agg [.hs 417 0 [] 1 0 ((r8.Parties).map str).length,.hs 418 0 [] 12 0 ((r8.Clauses).map encO_Clause).length]) rfl (e_callV rfl rfl (call_P rfl rfl rfl (avS (shP rfl) (avN)) (Ffbo_F hr8) (.inr rfl) (bl_n) rfl rfl rfl)) ?_
     refine ck 1 [8] [] [433] [] [.hp 433 0 [] 2 0 0] [some ⟨0,2,[.agg [.isl true [],.isl true []]]⟩] 449 (by kernel_rfl) ?_
     refine run_row 433 [.agg [.usl 1 (([]).map str),.usl 12 (([]).map encO_Clause)]] rfl rfl (cvs_c (cv_agg (cvs_c (.nil _) (cvs_c (.nil _) (cvs_n)))) cvs_n) ?_
     refine o0 465 rfl rfl (e_st rfl rfl (st_at (path:=[]) (pl:=false) (e':=.agg [.usl 1 ((r8.Parties).map str),.usl 12 ((r8.Clauses).map encO_Clause)]) (es2':=[.agg [.usl 1 ((r8.Parties).map str),.usl 12 ((r8.Clauses).map encO_Clause)]]) rfl (absA (absC (abs_hs rfl rfl) (absC (abs_hs rfl rfl) (absN)))) rfl rfl rfl (ra_n) rfl rfl rfl rfl rfl (sr_n) 2 rfl)) ?_
     refine cq 4 [32] [.isl false ((aTrace_2).map enc_Entry)] 481 ?_
     obtain ⟨r9,hr9,h⟩:=bS h
     refine oq 497 (.hs 481 0 [] 4 0 ((r9).map enc_Entry).length) rfl (e_callV rfl rfl (call_P rfl rfl rfl (avS (shP rfl) (avN)) (Ffbq_F hr9) (.inr rfl) (bl_n) rfl rfl rfl)) ?_
     refine cq 6 [9,35,36] [.hs 481 0 [] 4 0 ((r9).map enc_Entry).length,.agg [.hs 433 2 [(0,0)] 1 0 ((r8.Parties).map str).length,.hs 433 2 [(0,1)] 12 0 ((r8.Clauses).map encO_Clause).length],.hs 481 0 [] 4 0 ((r9).map enc_Entry).length] 545 ?_
     obtain ⟨r10,hr10,h⟩:=bS h
     refine oq 561 (.tup [I (r10.1),B (r10.2)]) rfl (e_callV rfl rfl (call_P rfl rfl rfl (avS (shA (shC (sh_at (path:=[(0,0)]) rfl rfl (ra_c rfl rfl (ra_n)) rfl (imms_of (f:=str) str_imm)) (shC (sh_at (path:=[(0,1)]) rfl rfl (ra_c rfl rfl (ra_n)) rfl (imms_of (f:=encO_Clause) encO_Clause_imm)) (shN)))) (avS (sh1 rfl rfl (sh_hsM (f:=enc_Entry) (g:=enc_Entry) (xs:=r9) rfl rfl (imms_of enc_Entry_imm))) (avN))) (Ffa_F hr10) (.inl (rfl)) (bl_n) rfl rfl rfl)) ?_
     refine cq 13 [11,43] [B (r10.2),B ((r10.1 != r7.1))] 705 ?_
     obtain ⟨u11,hu11,h⟩:=lJ h
     have j11 : Run laws_FnExactFirstBreach_E 0 (laws_FnExactFirstBreach_Q (aC_1,aTrace_2) r) (.code (cR (cL (cR (cR (cR (cR (cR (cR (cR (cR (cR (cR laws_FnExactFirstBreach_c)))))))))))) :: .code (cR (cR (cR (cR (cR (cR (cR (cR (cR (cR (cR laws_FnExactFirstBreach_c))))))))))) :: []) (sT 58 [(1,.isl false ((aTrace_2).map enc_Entry)),(2,.hp 1 0 [] 2 0 0),(8,.hp 2 0 [] 2 0 0),(9,.hs 3 0 [] 4 0 ((r9).map enc_Entry).length),(47,B (u11))] [⟨0,2,[encI_Contract aC_1]⟩,⟨0,2,[.agg [.usl 1 ((r8.Parties).map str),.usl 12 ((r8.Clauses).map encO_Clause)]]⟩,⟨0,4,(r9).map enc_Entry⟩] 4):=by
       refine sq h (fun h=>?_) (fun h=>?_)
       · refine cq 4 [4] [B (false)] 20 ?_
         obtain rfl:=Option.some.inj h
         exact s_ret rfl ⟨_,fin (vs:=[B (false)]) rfl (absE (absorb_plain rfl) (absEN)) rfl (ou_f (ou_f (ou_n))),kl_n⟩
       · refine aq 1 ?_
         refine aq 2 ?_
         refine s_draw [0,0,2,7,15] rfl (by decide +kernel) ?_
         refine dq [2] [] (.agg [.hs 2 0 [(0,0)] 1 0 ((r8.Parties).map str).length,.hs 2 0 [(0,1)] 12 0 ((r8.Clauses).map encO_Clause).length]) rfl (e_ld rfl rfl) ?_
         refine dq [1] [] (encI_Contract aC_1) rfl (e_ld rfl rfl) ?_
         obtain ⟨r12,hr12,h⟩:=bS h
         refine dq [] [] (.agg [.hs 36 0 [] 1 0 ((r12.Parties).map str).length,.hs 37 0 [] 12 0 ((r12.Clauses).map encO_Clause).length]) rfl (e_callV rfl rfl (call_P rfl rfl rfl (avS (shP rfl) (avN)) (Ffbo_F hr12) (.inr rfl) (bl_n) rfl rfl rfl)) ?_ (w_callO rfl rfl rfl rfl (avS (shP rfl) (avN)) (Ffbo_F hr12) (.inr rfl) rfl)
         obtain ⟨r13,hr13,h⟩:=bS h
         refine dq [2,2,36,37] [] (B (r13)) rfl (e_callV rfl rfl (call_P rfl rfl rfl (avS (shA (shC (sh_at (path:=[(0,0)]) rfl rfl (ra_c rfl rfl (ra_n)) rfl (imms_of (f:=str) str_imm)) (shC (sh_at (path:=[(0,1)]) rfl rfl (ra_c rfl rfl (ra_n)) rfl (imms_of (f:=encO_Clause) encO_Clause_imm)) (shN)))) (avS (shA (shC (sh_hsM (f:=str) (g:=str) (xs:=r12.Parties) rfl rfl (imms_of str_imm)) (shC (sh_hsM (f:=encO_Clause) (g:=encI_Clause) (xs:=r12.Clauses) rfl rfl (imms_of encO_Clause_imm)) (shN)))) (avN))) (Ffx_F hr13) (.inl (rfl)) (bl_n) rfl rfl rfl)) ?_ (w_callO rfl rfl rfl rfl (avS (shA (shC (sh_at (path:=[(0,0)]) rfl rfl (ra_c rfl rfl (ra_n)) rfl (imms_of (f:=str) str_imm)) (shC (sh_at (path:=[(0,1)]) rfl rfl (ra_c rfl rfl (ra_n)) rfl (imms_of (f:=encO_Clause) encO_Clause_imm)) (shN)))) (avS (shA (shC (sh_hsM (f:=str) (g:=str) (xs:=r12.Parties) rfl rfl (imms_of str_imm)) (shC (sh_hsM (f:=encO_Clause) (g:=encI_Clause) (xs:=r12.Clauses) rfl rfl (imms_of encO_Clause_imm)) (shN)))) (avN))) (Ffx_F hr13) (.inl (rfl)) rfl)
         refine dk 1 [52] [B ((!r13))] ?_
         refine de 84 rfl rfl ?_
         refine sq h (fun h=>?_) (fun h=>?_)
         · refine cq 4 [4] [B (false)] 100 ?_
           obtain rfl:=Option.some.inj h
           exact s_ret rfl ⟨_,fin (vs:=[B (false)]) rfl (absE (absorb_plain rfl) (absEN)) rfl (ou_f (ou_f (ou_n))),kl_n⟩
         · refine aq 1 ?_
           refine cq 5 [53,54] [.hs 3 0 [] 4 0 ((r9).map enc_Entry).length,.isl false ((aTrace_2).map enc_Entry)] 116 ?_
           obtain ⟨r14,hr14,h⟩:=bS h
           refine oq 132 (.hs 116 0 [] 4 0 ((r14).map enc_Entry).length) rfl (e_callV rfl rfl (call_P rfl rfl rfl (avS (shP rfl) (avN)) (Ffbq_F hr14) (.inr rfl) (bl_n) rfl rfl rfl)) ?_
           obtain ⟨r15,hr15,h⟩:=bS h
           refine oq 148 (B (r15)) rfl (e_callV rfl rfl (call_P rfl rfl rfl (avS (sh1 rfl rfl (sh_hsM (f:=enc_Entry) (g:=enc_Entry) (xs:=r9) rfl rfl (imms_of enc_Entry_imm))) (avS (sh1 rfl rfl (sh_hsM (f:=enc_Entry) (g:=enc_Entry) (xs:=r14) rfl rfl (imms_of enc_Entry_imm))) (avN))) (Ffz_F hr15) (.inl (rfl)) (bl_n) rfl rfl rfl)) ?_
           refine cq 2 [57] [B ((!r15))] 164 ?_
           refine sq h (fun h=>?_) (fun h=>?_)
           · refine cq 4 [4] [B (false)] 180 ?_
             obtain rfl:=Option.some.inj h
             exact s_ret rfl ⟨_,fin (vs:=[B (false)]) rfl (absE (absorb_plain rfl) (absEN)) rfl (ou_f (ou_f (ou_n))),kl_n⟩
           · refine aq 1 ?_
             refine cq 4 [4] [B (true)] 180 ?_
             obtain rfl:=Option.some.inj h
             exact s_ret rfl ⟨_,fin (vs:=[B (true)]) rfl (absE (absorb_plain rfl) (absEN)) rfl (ou_f (ou_f (ou_n))),kl_n⟩
     replace h:=hu11
     clear hu11
     refine sp 43 h rfl (fun h=>?_) (fun h=>?_)
     · refine cq 5 [47] [B (true)] 769 ?_
       subst h
       exact rf [1,2,8,9,47] [1,433,481] (j11 :)
     · refine cq 5 [47] [B ((!(r10.2 == r7.2)))] 769 ?_
       subst h
       exact rf [1,2,8,9,47] [1,433,481] (j11 :)
theorem laws_FnExactFirstBreach_good {G : Go.Ln.Ground} : Good Tryz.prog G 3 laws_FnExactFirstBreach_ent:=good_T (fnOf_good (gl_c Ffbg_good (gl_c Ffbh_good (gl_c Ffbo_good (gl_c Ffbq_good (gl_c Ffca_good (gl_c Ffa_good (gl_c Ffx_good (gl_c Ffz_good (gl_n)))))))))) agree_mk (Checked.mixed Tryz.checked) Tryz.func3 (n:=2) (m:=0) ⟨rfl,rfl,by decide⟩ (fun _=>⟨rfl,rfl⟩) (fun a r h=>laws_FnExactFirstBreach_run a.1 a.2 r h)
end Go.Ln
