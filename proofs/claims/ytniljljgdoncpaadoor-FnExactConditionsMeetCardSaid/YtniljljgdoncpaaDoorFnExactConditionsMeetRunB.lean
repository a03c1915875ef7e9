/-
  Each function of the program computes its plain function.
-/
import Derived.Test.YtniljljgdoncpaaDoorFnExactConditionsMeetRunA
set_option maxHeartbeats 4000000
set_option linter.unusedVariables false
set_option linter.unusedSimpArgs false
set_option maxRecDepth 100000
namespace Go.Ln
open Go Go.Proofs
theorem Ffbo_ld_run (data_15 : List Str) (a_16 : Int) (b_17 : Int) (x4 : Int × Int × Int × Int × (List Str)) (u10 : Int) {Q : St→Prop} {K : List It} (hK : noD K=true) : ∀ (x42 : Int × (List Str)) (y : (Bool × (List Str)) ⊕ ((List Str))),Ffbo_ld data_15 a_16 b_17 x4 u10 x42=some y→(∀ r',y=.inl r'→∀ st,Ffbo_Q (data_15,a_16,b_17) r' st→Q st)→(∀ u : (List Str),y=.inr u→Run Ffbo_E 1 Q K (sT 133 [(0,.hs 1 0 [] 1 0 ((u).map str).length),(1,I (x4.1)),(2,I (x4.2.1)),(7,I (u10)),(8,I (x4.2.2.2.1))] [⟨0,1,(u).map str⟩] 2))→Run Ffbo_E 1 Q (.code Ffbo_kd :: .lp Ffbo_kd :: .blk 4 :: K) (sT 133 [(0,.hs 1 0 [] 1 0 ((x42.2).map str).length),(1,I (x4.1)),(2,I (x4.2.1)),(7,I (u10)),(8,I (x4.2.2.2.1)),(9,I (x42.1))] [⟨0,1,(x42.2).map str⟩] 2):=by
 refine fix_indP (Ffbo_ld_fin data_15 a_16 b_17 x4 u10) ?_
 intro self ih x42 y h hr hn
 unfold Ffbo_ld_F at h
 refine cq 6 [65] [B ((decide (x42.1 ≥ 1)))] 34 ?_
 refine sq h (fun h=>?_) (fun h=>?_)
 · refine aq 1 ?_
   refine aq 4 ?_
   refine s_draw [0,0,3,7,0,0,32,112,240,511,1023] rfl (by decide +kernel) ?_
   refine dk 2 [69,68] [I (x42.1),.hs 1 0 [] 1 0 ((x42.2).map str).length] ?_
   obtain ⟨e43,he43,h⟩:=bS h
   refine dq [1] [] (.hp 1 0 [] 1 (0 + Int.toNat (x42.1)) 0) rfl (e_indexAddr rfl rfl rfl (ix_hsM (f:=str) (xs:=x42.2) rfl rfl rfl he43)) ?_
   refine dq [1] [] (str (e43)) rfl (e_ld rfl (ld_at (path:=[]) rfl rfl rfl (ra_n) (get_map (f:=str) (xs:=x42.2) he43) rfl rfl rfl)) ?_
   refine dk 3 [74,73,72] [I ((w64 (x42.1 - 1))),I (x42.1),.hs 1 0 [] 1 0 ((x42.2).map str).length] ?_
   obtain ⟨e44,he44,h⟩:=bS h
   refine dq [1] [] (.hp 1 0 [] 1 (0 + Int.toNat ((w64 (x42.1 - 1)))) 0) rfl (e_indexAddr rfl rfl rfl (ix_hsM (f:=str) (xs:=x42.2) rfl rfl rfl he44)) ?_
   refine dq [1] [] (str (e44)) rfl (e_ld rfl (ld_at (path:=[]) rfl rfl rfl (ra_n) (get_map (f:=str) (xs:=x42.2) he44) rfl rfl rfl)) ?_
   obtain ⟨r45,hr45,h⟩:=bS h
   refine dq [] [] (B (r45)) rfl (e_callV rfl rfl (call_P rfl rfl rfl (avS (shP rfl) (avS (shP rfl) (avN))) (Ffa_F hr45) (.inr rfl) (bl_n) rfl rfl rfl)) ?_ (w_callO rfl rfl rfl rfl (avS (shP rfl) (avS (shP rfl) (avN))) (Ffa_F hr45) (.inr rfl) rfl)
   refine dk 1 [78] [B ((!r45))] ?_
   refine de 210 rfl rfl ?_
   refine sq h (fun h=>?_) (fun h=>?_)
   · refine aq 1 ?_
     exact rf [0,1,2,7,8] [1] (hn _ (Option.some.inj h).symm :) (hk:=hK)
   · refine aq 1 ?_
     refine s_draw [0,0,0,0,8,0,0,64,224,480,0,0,3072,7168,16355,32739,65535,131071] rfl (by decide +kernel) ?_
     refine dk 8 [86,85,84,83,82,81,80,79] [I ((w64 (x42.1 - 1))),I (x42.1),.hs 1 0 [] 1 0 ((x42.2).map str).length,I ((w64 (x42.1 - 1))),I (x42.1),.hs 1 0 [] 1 0 ((x42.2).map str).length,I (x42.1),.hs 1 0 [] 1 0 ((x42.2).map str).length] ?_
     obtain ⟨e46,he46,h⟩:=bS h
     refine dq [1] [] (.hp 1 0 [] 1 (0 + Int.toNat ((w64 (x42.1 - 1)))) 0) rfl (e_indexAddr rfl rfl rfl (ix_hsM (f:=str) (xs:=x42.2) rfl rfl rfl he46)) ?_
     refine dq [1] [] (str (e46)) rfl (e_ld rfl (ld_at (path:=[]) rfl rfl rfl (ra_n) (get_map (f:=str) (xs:=x42.2) he46) rfl rfl rfl)) ?_
     refine dk 2 [90,89] [I (x42.1),.hs 1 0 [] 1 0 ((x42.2).map str).length] ?_
     obtain ⟨e47,he47,h⟩:=bS h
     refine dq [1] [] (.hp 1 0 [] 1 (0 + Int.toNat (x42.1)) 0) rfl (e_indexAddr rfl rfl rfl (ix_hsM (f:=str) (xs:=x42.2) rfl rfl rfl he47)) ?_
     refine dq [1] [] (str (e47)) rfl (e_ld rfl (ld_at (path:=[]) rfl rfl rfl (ra_n) (get_map (f:=str) (xs:=x42.2) he47) rfl rfl rfl)) ?_
     obtain ⟨e48,he48,h⟩:=bS h
     refine dq [1] [] (.hp 1 0 [] 1 (0 + Int.toNat (x42.1)) 0) rfl (e_indexAddr rfl rfl rfl (ix_hsM (f:=str) (xs:=x42.2) rfl rfl rfl he48)) ?_
     refine dz [1] [1] rfl (e_st rfl rfl (st_at (path:=[]) (pl:=true) (e':=str (e46)) (es2':=((setI x42.2 x42.1 e46)).map str) rfl (absorb_plain rfl) rfl rfl rfl (ra_n) (get_map (f:=str) (xs:=x42.2) he48) rfl rfl rfl (set_map (f:=str) (xs:=x42.2) (y:=e46)) (sr_n) 0 rfl)) ?_
     try rw [← len_setM (f:=str) (xs:=x42.2) (i:=x42.1) (z:=e46)]
     obtain ⟨e53,he53,h⟩:=bS h
     refine dq [1] [] (.hp 1 0 [] 1 (0 + Int.toNat ((w64 (x42.1 - 1)))) 0) rfl (e_indexAddr rfl rfl rfl (ix_hsM (f:=str) (xs:=(setI x42.2 x42.1 e46)) rfl rfl rfl he53)) ?_
     refine dz [1] [1] rfl (e_st rfl rfl (st_at (path:=[]) (pl:=true) (e':=str (e47)) (es2':=((setI (setI x42.2 x42.1 e46) (w64 (x42.1 - 1)) e47)).map str) rfl (absorb_plain rfl) rfl rfl rfl (ra_n) (get_map (f:=str) (xs:=(setI x42.2 x42.1 e46)) he53) rfl rfl rfl (set_map (f:=str) (xs:=(setI x42.2 x42.1 e46)) (y:=e47)) (sr_n) 0 rfl)) ?_
     try rw [← len_setM (f:=str) (xs:=(setI x42.2 x42.1 e46)) (i:=(w64 (x42.1 - 1))) (z:=e47)]
     refine de 498 rfl rfl ?_
     refine cq 6 [9] [I ((w64 (x42.1 - 1)))] 546 ?_
     refine s_lp ?_
     exact rf [0,1,2,7,8,9] [1] (ih _ _ h hr hn :)
 · refine aq 1 ?_
   exact rf [0,1,2,7,8] [1] (hn _ (Option.some.inj h).symm :) (hk:=hK)
theorem Ffbo_la_run (data_15 : List Str) (a_16 : Int) (b_17 : Int)  {Q : St→Prop} {K : List It} (hK : noD K=true) : ∀ (x4 : Int × Int × Int × Int × (List Str)) (y : (Bool × (List Str)) ⊕ ((List Str))),Ffbo_la data_15 a_16 b_17 x4=some y→(∀ r',y=.inl r'→∀ st,Ffbo_Q (data_15,a_16,b_17) r' st→Q st)→(∀ u : (List Str),y=.inr u→Run Ffbo_E 1 Q K (sT 133 [] [⟨0,1,(u).map str⟩] 2))→Run Ffbo_E 1 Q (.code Ffbo_ka :: .lp Ffbo_ka :: .blk 0 :: K) (sT 133 [(0,.hs 1 0 [] 1 0 ((x4.2.2.2.2).map str).length),(1,I (x4.1)),(2,I (x4.2.1)),(7,I (x4.2.2.1)),(8,I (x4.2.2.2.1))] [⟨0,1,(x4.2.2.2.2).map str⟩] 2):=by
 refine fix_indP (Ffbo_la_fin data_15 a_16 b_17) ?_
 intro self ih x4 y h hr hn
 unfold Ffbo_la_F at h
 refine cq 6 [14] [B ((decide (x4.2.2.2.1 < 5)))] 34 ?_
 refine sq h (fun h=>?_) (fun h=>?_)
 · refine aq 1 ?_
   refine aq 4 ?_
   obtain ⟨y10,hy10,hy101,hy102⟩:=bL h
   refine s_loop rfl ?_
   refine rf [0,1,2,7,8] [1] (Ffbo_lb_run data_15 a_16 b_17 x4 rfl x4.2.2.1 _ hy10 (fun r' e st hq=>hr r' (hy101 r' e) st hq) fun u10 hu=>?_)
   replace h:=hy102 u10 hu
   refine cq 7 [37] [B ((u10 == x4.2.1))] 50 ?_
   refine sq h (fun h=>?_) (fun h=>?_)
   · refine cq 4 [6] [B (true)] 66 ?_
     obtain ⟨g11,h⟩:=gG h
     exact s_ret rfl (hr _ (Option.some.inj h).symm _ ⟨_,fin (vs:=[B (true)]) rfl (absE (absorb_plain rfl) (absEN)) rfl (ou_1 rfl (oc_hsG (f:=str) (xs:=x4.2.2.2.2) (by simpa using g11) rfl) (ou_f (ou_f (ou_n)))),kl_c (kl_n)⟩)
   · refine aq 1 ?_
     refine cq 8 [41] [B ((decide ((w64 (x4.2.1 - x4.1)) < 50)))] 114 ?_
     refine sq h (fun h=>?_) (fun h=>?_)
     · refine cq 4 [6] [B (false)] 130 ?_
       obtain ⟨g12,h⟩:=gG h
       exact s_ret rfl (hr _ (Option.some.inj h).symm _ ⟨_,fin (vs:=[B (false)]) rfl (absE (absorb_plain rfl) (absEN)) rfl (ou_1 rfl (oc_hsG (f:=str) (xs:=x4.2.2.2.2) (by simpa using g12) rfl) (ou_f (ou_f (ou_n)))),kl_c (kl_n)⟩)
     · refine aq 1 ?_
       refine aq 1 ?_
       refine s_draw [0,0,0,0,8,0,0,64,224,480,0,0,3072,7168,16355,32739,65535,131071] rfl (by decide +kernel) ?_
       refine dk 8 [49,48,47,46,45,44,43,42] [I ((w64 (u10 - 1))),I (u10),.hs 1 0 [] 1 0 ((x4.2.2.2.2).map str).length,I ((w64 (u10 - 1))),I (u10),.hs 1 0 [] 1 0 ((x4.2.2.2.2).map str).length,I (u10),.hs 1 0 [] 1 0 ((x4.2.2.2.2).map str).length] ?_
       obtain ⟨e13,he13,h⟩:=bS h
       refine dq [1] [] (.hp 1 0 [] 1 (0 + Int.toNat ((w64 (u10 - 1)))) 0) rfl (e_indexAddr rfl rfl rfl (ix_hsM (f:=str) (xs:=x4.2.2.2.2) rfl rfl rfl he13)) ?_
       refine dq [1] [] (str (e13)) rfl (e_ld rfl (ld_at (path:=[]) rfl rfl rfl (ra_n) (get_map (f:=str) (xs:=x4.2.2.2.2) he13) rfl rfl rfl)) ?_
       refine dk 2 [53,52] [I (u10),.hs 1 0 [] 1 0 ((x4.2.2.2.2).map str).length] ?_
       obtain ⟨e14,he14,h⟩:=bS h
       refine dq [1] [] (.hp 1 0 [] 1 (0 + Int.toNat (u10)) 0) rfl (e_indexAddr rfl rfl rfl (ix_hsM (f:=str) (xs:=x4.2.2.2.2) rfl rfl rfl he14)) ?_
       refine dq [1] [] (str (e14)) rfl (e_ld rfl (ld_at (path:=[]) rfl rfl rfl (ra_n) (get_map (f:=str) (xs:=x4.2.2.2.2) he14) rfl rfl rfl)) ?_
       obtain ⟨e15,he15,h⟩:=bS h
       refine dq [1] [] (.hp 1 0 [] 1 (0 + Int.toNat (u10)) 0) rfl (e_indexAddr rfl rfl rfl (ix_hsM (f:=str) (xs:=x4.2.2.2.2) rfl rfl rfl he15)) ?_
       refine dz [1] [1] rfl (e_st rfl rfl (st_at (path:=[]) (pl:=true) (e':=str (e13)) (es2':=((setI x4.2.2.2.2 u10 e13)).map str) rfl (absorb_plain rfl) rfl rfl rfl (ra_n) (get_map (f:=str) (xs:=x4.2.2.2.2) he15) rfl rfl rfl (set_map (f:=str) (xs:=x4.2.2.2.2) (y:=e13)) (sr_n) 0 rfl)) ?_
       try rw [← len_setM (f:=str) (xs:=x4.2.2.2.2) (i:=u10) (z:=e13)]
       obtain ⟨e18,he18,h⟩:=bS h
       refine dq [1] [] (.hp 1 0 [] 1 (0 + Int.toNat ((w64 (u10 - 1)))) 0) rfl (e_indexAddr rfl rfl rfl (ix_hsM (f:=str) (xs:=(setI x4.2.2.2.2 u10 e13)) rfl rfl rfl he18)) ?_
       refine dz [1] [1] rfl (e_st rfl rfl (st_at (path:=[]) (pl:=true) (e':=str (e14)) (es2':=((setI (setI x4.2.2.2.2 u10 e13) (w64 (u10 - 1)) e14)).map str) rfl (absorb_plain rfl) rfl rfl rfl (ra_n) (get_map (f:=str) (xs:=(setI x4.2.2.2.2 u10 e13)) he18) rfl rfl rfl (set_map (f:=str) (xs:=(setI x4.2.2.2.2 u10 e13)) (y:=e14)) (sr_n) 0 rfl)) ?_
       try rw [← len_setM (f:=str) (xs:=(setI x4.2.2.2.2 u10 e13)) (i:=(w64 (u10 - 1))) (z:=e14)]
       refine de 402 rfl rfl ?_
       refine cq 8 [61] [B ((decide ((w64 (u10 - x4.1)) ≥ 2)))] 466 ?_
       obtain ⟨y22,hy22,hy221,hy222⟩:=bL h
       have j22 : ∀ u22,y22=.inr u22→Run Ffbo_E 1 Q (.code (cR (cR (cR (cR (cR (cL (cL (cR Ffbo_ka)))))))) :: .blk 1 :: .code (cR (cR Ffbo_ka)) :: .lp Ffbo_ka :: .blk 0 :: K) (sT 133 [(0,.hs 1 0 [] 1 0 ((u22).map str).length),(1,I (x4.1)),(2,I (x4.2.1)),(7,I (u10)),(8,I (x4.2.2.2.1))] [⟨0,1,(u22).map str⟩] 2):=by
         intro u22 hu
         replace h:=hy222 u22 hu
         refine cq 7 [98] [B ((decide ((w64 (x4.2.1 - u10)) ≥ 2)))] 66 ?_
         obtain ⟨y23,hy23,hy231,hy232⟩:=bL h
         have j23 : ∀ u23,y23=.inr u23→Run Ffbo_E 1 Q (.blk 1 :: .code (cR (cR Ffbo_ka)) :: .lp Ffbo_ka :: .blk 0 :: K) (sT 133 [(0,.hs 1 0 [] 1 0 ((u23).map str).length),(1,I (x4.1)),(2,I (x4.2.1)),(7,I (u10)),(8,I (x4.2.2.2.1))] [⟨0,1,(u23).map str⟩] 2):=by
           intro u23 hu
           replace h:=hy232 u23 hu
           refine cq 6 [8] [I ((w64 (x4.2.2.2.1 + 1)))] 50 ?_
           refine s_lp ?_
           exact rf [0,1,2,7,8] [1] (ih _ _ h hr hn :)
         have r23 : ∀ r',y23=.inl r'→∀ st,Ffbo_Q (data_15,a_16,b_17) r' st→Q st:=fun r' e st hq=>hr r' (hy231 r' e) st hq
         replace h:=hy23
         refine sq h (fun h=>?_) (fun h=>?_)
         · refine cq 7 [10] [I ((w64 (u10 + 1)))] 114 ?_
           obtain ⟨y41,hy41,hy411,hy412⟩:=bL h
           refine s_loop rfl ?_
           refine rf [0,1,2,7,8,10] [1] (Ffbo_lc_run data_15 a_16 b_17 x4 u10 rfl ((w64 (u10 + 1)),u22) _ hy41 (fun r' e st hq=>r23 r' (hy411 r' e) st hq) fun u41 hu=>?_)
           replace h:=hy412 u41 hu
           exact rf [0,1,2,7,8] [1] (j23 _ (Option.some.inj h).symm :)
         · refine aq 1 ?_
           exact rf [0,1,2,7,8] [1] (j23 _ (Option.some.inj h).symm :)
       have r22 : ∀ r',y22=.inl r'→∀ st,Ffbo_Q (data_15,a_16,b_17) r' st→Q st:=fun r' e st hq=>hr r' (hy221 r' e) st hq
       replace h:=hy22
       refine sq h (fun h=>?_) (fun h=>?_)
       · refine cq 7 [9] [I ((w64 (u10 - 1)))] 514 ?_
         obtain ⟨y59,hy59,hy591,hy592⟩:=bL h
         refine s_loop rfl ?_
         refine rf [0,1,2,7,8,9] [1] (Ffbo_ld_run data_15 a_16 b_17 x4 u10 rfl ((w64 (u10 - 1)),(setI (setI x4.2.2.2.2 u10 e13) (w64 (u10 - 1)) e14)) _ hy59 (fun r' e st hq=>r22 r' (hy591 r' e) st hq) fun u59 hu=>?_)
         replace h:=hy592 u59 hu
         exact rf [0,1,2,7,8] [1] (j22 _ (Option.some.inj h).symm :)
       · refine aq 1 ?_
         exact rf [0,1,2,7,8] [1] (j22 _ (Option.some.inj h).symm :)
 · refine aq 1 ?_
   exact rf [] [1] (hn _ (Option.some.inj h).symm :) (hk:=hK)
theorem Ffbo_run (data_15 : List Str) (a_16 : Int) (b_17 : Int) (r : Bool × (List Str)) (h : Ffbo data_15 a_16 b_17=some r) : RunF Ffbo_E Tryd.f145 [true,false,false] 1 (Ffbo_A (data_15,a_16,b_17)) (Ffbo_R r):=by
 show Run _ _ (Ffbo_Q (data_15,a_16,b_17) r) [.code Ffbo_c] _
 refine rin (n:=133) [(0,.hs 1 0 [] 1 0 ((data_15).map str).length),(1,I (a_16)),(2,I (b_17))] [(1,some ⟨0,1,(data_15).map str⟩)] 2 (by kernel_rfl) (by kernel_rfl) (by kernel_rfl) rfl ?_
 unfold Ffbo at h
 refine cq 16 [7,8] [I ((w64 (a_16 + 1))),I (0)] 82 ?_
 obtain ⟨y60,hy60,hy601,hy602⟩:=bJ h
 refine s_loop rfl ?_
 refine rf [0,1,2,7,8] [1] (Ffbo_la_run data_15 a_16 b_17 rfl (a_16,b_17,(w64 (a_16 + 1)),0,data_15) _ hy60 (fun r' e st hq=>by rw [hy601 r' e] at hq; exact hq) fun u60 hu=>?_)
 replace h:=hy602 u60 hu
 refine cq 4 [6] [B (false)] 18 ?_
 obtain ⟨g61,h⟩:=gG h
 obtain rfl:=Option.some.inj h
 exact s_ret rfl ⟨_,fin (vs:=[B (false)]) rfl (absE (absorb_plain rfl) (absEN)) rfl (ou_1 rfl (oc_hsG (f:=str) (xs:=u60) (by simpa using g61) rfl) (ou_f (ou_f (ou_n)))),kl_c (kl_n)⟩
theorem Ffbo_good {G : Go.Ln.Ground} : Good Tryd.prog G 145 Ffbo_ent:=good_T (fnOf_good (gl_c Ffa_good (gl_n))) agree_mk (Checked.mixed Tryd.checked) Tryd.func145 (n:=3) (m:=1) ⟨rfl,rfl,by decide⟩ (fun _=>⟨rfl,rfl⟩) (fun a r h=>Ffbo_run a.1 a.2.1 a.2.2 r h)
def Ffbp_A : ((List Str) × Int × Int × Int)→List V:=cA (usE 1 str) (cA I (cA I (oA I)))
def Ffbp_R (r : Int × (List Str)) : V × List V:=(I (r.1),[.usl 1 ((r.2).map str)])
noncomputable def Ffbp_ent : Ent:=entT [true,false,false,false] Ffbp_A Ffbp_R fun x=>Ffbp x.1 x.2.1 x.2.2.1 x.2.2.2
theorem Ffbp_F {data_8 : List Str} {a_9 : Int} {b_10 : Int} {pivot_11 : Int} {r} (h : Ffbp data_8 a_9 b_10 pivot_11=some r) : (Ffbp_ent).F (Ffbp_A (data_8,a_9,b_10,pivot_11))=some (Ffbp_R r):=entT_F (cA_inj (usl_inj str_inj) (cA_inj I_inj (cA_inj I_inj (oA_inj I_inj)))) h
noncomputable def Ffbp_c : Code:=bodyOf Tryd.f147
noncomputable abbrev Ffbp_ka : Code:=cL (cL (cL (cL (cL (cL (cL (cR (cR (cR Ffbp_c)))))))))
noncomputable abbrev Ffbp_kb : Code:=cL (cL (cL (cR (cL (cL (cL (cL (cR (cR (cR Ffbp_c))))))))))
noncomputable def Ffbp_E : Env:=mkE Tryd.prog [(146,Ffa_ent)]
def Ffbp_Q (x : (List Str) × Int × Int × Int) (r : Int × (List Str)) : St→Prop:=QF Ffbp_E Tryd.f147 [true,false,false,false] (Ffbp_A x) (Ffbp_R r)
theorem Ffbp_lb_run (data_8 : List Str) (a_9 : Int) (b_10 : Int) (pivot_11 : Int) (x14 : Int × Int × (List Str)) {Q : St→Prop} {K : List It} (hK : noD K=true) : ∀ (x15 : Int) (y : (Int × (List Str)) ⊕ Int),Ffbp_lb data_8 a_9 b_10 pivot_11 x14 x15=some y→(∀ r',y=.inl r'→∀ st,Ffbp_Q (data_8,a_9,b_10,pivot_11) r' st→Q st)→(∀ u : Int,y=.inr u→Run Ffbp_E 1 Q K (sT 84 [(0,.hs 1 0 [] 1 0 ((x14.2.2).map str).length),(1,I (a_9)),(9,I (u)),(10,I (x14.2.1))] [⟨0,1,(x14.2.2).map str⟩] 2))→Run Ffbp_E 1 Q (.code Ffbp_ka :: .lp Ffbp_ka :: .blk 2 :: K) (sT 84 [(0,.hs 1 0 [] 1 0 ((x14.2.2).map str).length),(1,I (a_9)),(9,I (x15)),(10,I (x14.2.1))] [⟨0,1,(x14.2.2).map str⟩] 2):=by
 refine fix_indP (Ffbp_lb_fin data_8 a_9 b_10 pivot_11 x14) ?_
 intro self ih x15 y h hr hn
 unfold Ffbp_lb_F at h
 refine aq 2 ?_
 refine s_draw [0,0,3,7,15,15,63,127,15,15,783,1807,4095,8191,16383] rfl (by decide +kernel) ?_
 refine dk 4 [32,31,30,29] [B ((decide (x15 ≤ x14.2.1))),B ((decide (x15 ≤ x14.2.1))),I (x14.2.1),I (x15)] ?_
 obtain ⟨y16,hy16,hy161,hy162⟩:=bL h
 have j16 : ∀ u16,y16=.inr u16→Run Ffbp_E 1 Q (.code (cR (cL Ffbp_ka)) :: .code (cR Ffbp_ka) :: .lp Ffbp_ka :: .blk 2 :: K) (sT 84 [(0,.hs 1 0 [] 1 0 ((x14.2.2).map str).length),(1,I (a_9)),(9,I (x15)),(10,I (x14.2.1)),(43,B (u16))] [⟨0,1,(x14.2.2).map str⟩] 2):=by
   intro u16 hu
   replace h:=hy162 u16 hu
   refine sq h (fun h=>?_) (fun h=>?_)
   · refine aq 1 ?_
     refine cq 7 [9] [I ((w64 (x15 + 1)))] 50 ?_
     refine s_lp ?_
     exact rf [0,1,9,10] [1] (ih _ _ h hr hn :)
   · refine aq 1 ?_
     exact rf [0,1,9,10] [1] (hn _ (Option.some.inj h).symm :) (hk:=hK)
 have r16 : ∀ r',y16=.inl r'→∀ st,Ffbp_Q (data_8,a_9,b_10,pivot_11) r' st→Q st:=fun r' e st hq=>hr r' (hy161 r' e) st hq
 replace h:=hy16
 refine sp 32 h rfl (fun h=>?_) (fun h=>?_)
 · refine dk 2 [34,33] [I (a_9),.hs 1 0 [] 1 0 ((x14.2.2).map str).length] ?_
   obtain ⟨e17,he17,h⟩:=bS h
   refine dy [1] [] (.hp 1 0 [] 1 (0 + Int.toNat (a_9)) 0) rfl (e_indexAddr rfl rfl rfl (ix_hsM (f:=str) (xs:=x14.2.2) rfl rfl rfl he17)) ?_
   refine dy [1] [] (str (e17)) rfl (e_ld rfl (ld_at (path:=[]) rfl rfl rfl (ra_n) (get_map (f:=str) (xs:=x14.2.2) he17) rfl rfl rfl)) ?_
   refine dk 2 [38,37] [I (x15),.hs 1 0 [] 1 0 ((x14.2.2).map str).length] ?_
   obtain ⟨e18,he18,h⟩:=bS h
   refine dy [1] [] (.hp 1 0 [] 1 (0 + Int.toNat (x15)) 0) rfl (e_indexAddr rfl rfl rfl (ix_hsM (f:=str) (xs:=x14.2.2) rfl rfl rfl he18)) ?_
   refine dy [1] [] (str (e18)) rfl (e_ld rfl (ld_at (path:=[]) rfl rfl rfl (ra_n) (get_map (f:=str) (xs:=x14.2.2) he18) rfl rfl rfl)) ?_
   obtain ⟨r19,hr19,h⟩:=bS h
   refine dy [] [] (B (r19)) rfl (e_callV rfl rfl (call_P rfl rfl rfl (avS (shP rfl) (avS (shP rfl) (avN))) (Ffa_F hr19) (.inr rfl) (bl_n) rfl rfl rfl)) ?_ (w_callO rfl rfl rfl rfl (avS (shP rfl) (avS (shP rfl) (avN))) (Ffa_F hr19) (.inr rfl) rfl)
   refine dk 2 [43,42] [B ((!r19)),B ((!r19))] ?_
   refine de 242 rfl rfl ?_
   exact rf [0,1,9,10,43] [1] (j16 _ (Option.some.inj h).symm :)
 · refine dk 11 [43,42,41,40,39,38,37,36,35,34,33] [B (false),.und,.und,.und,.und,.und,.und,.und,.und,.und,.und] ?_
   refine de 242 rfl rfl ?_
   exact rf [0,1,9,10,43] [1] (j16 _ (Option.some.inj h).symm :)
theorem Ffbp_lc_run (data_8 : List Str) (a_9 : Int) (b_10 : Int) (pivot_11 : Int) (u20 : Int) (x14 : Int × Int × (List Str)) {Q : St→Prop} {K : List It} (hK : noD K=true) : ∀ (x21 : Int) (y : (Int × (List Str)) ⊕ Int),Ffbp_lc data_8 a_9 b_10 pivot_11 u20 x14 x21=some y→(∀ r',y=.inl r'→∀ st,Ffbp_Q (data_8,a_9,b_10,pivot_11) r' st→Q st)→(∀ u : Int,y=.inr u→Run Ffbp_E 1 Q K (sT 84 [(0,.hs 1 0 [] 1 0 ((x14.2.2).map str).length),(1,I (a_9)),(9,I (u20)),(10,I (u))] [⟨0,1,(x14.2.2).map str⟩] 2))→Run Ffbp_E 1 Q (.code Ffbp_kb :: .lp Ffbp_kb :: .blk 4 :: K) (sT 84 [(0,.hs 1 0 [] 1 0 ((x14.2.2).map str).length),(1,I (a_9)),(9,I (u20)),(10,I (x21))] [⟨0,1,(x14.2.2).map str⟩] 2):=by
 refine fix_indP (Ffbp_lc_fin data_8 a_9 b_10 pivot_11 u20 x14) ?_
 intro self ih x21 y h hr hn
 unfold Ffbp_lc_F at h
 refine aq 2 ?_
 refine s_draw [0,0,3,7,15,15,63,127,15,15,783,1807,4095,8191] rfl (by decide +kernel) ?_
 refine dk 4 [49,48,47,46] [B ((decide (u20 ≤ x21))),B ((decide (u20 ≤ x21))),I (x21),I (u20)] ?_
 obtain ⟨y22,hy22,hy221,hy222⟩:=bL h
 have j22 : ∀ u22,y22=.inr u22→Run Ffbp_E 1 Q (.code (cR (cL Ffbp_kb)) :: .code (cR Ffbp_kb) :: .lp Ffbp_kb :: .blk 4 :: K) (sT 84 [(0,.hs 1 0 [] 1 0 ((x14.2.2).map str).length),(1,I (a_9)),(9,I (u20)),(10,I (x21)),(59,B (u22))] [⟨0,1,(x14.2.2).map str⟩] 2):=by
   intro u22 hu
   replace h:=hy222 u22 hu
   refine sq h (fun h=>?_) (fun h=>?_)
   · refine aq 1 ?_
     refine cq 7 [10] [I ((w64 (x21 - 1)))] 50 ?_
     refine s_lp ?_
     exact rf [0,1,9,10] [1] (ih _ _ h hr hn :)
   · refine aq 1 ?_
     exact rf [0,1,9,10] [1] (hn _ (Option.some.inj h).symm :) (hk:=hK)
 have r22 : ∀ r',y22=.inl r'→∀ st,Ffbp_Q (data_8,a_9,b_10,pivot_11) r' st→Q st:=fun r' e st hq=>hr r' (hy221 r' e) st hq
 replace h:=hy22
 refine sp 49 h rfl (fun h=>?_) (fun h=>?_)
 · refine dk 2 [51,50] [I (a_9),.hs 1 0 [] 1 0 ((x14.2.2).map str).length] ?_
   obtain ⟨e23,he23,h⟩:=bS h
   refine dy [1] [] (.hp 1 0 [] 1 (0 + Int.toNat (a_9)) 0) rfl (e_indexAddr rfl rfl rfl (ix_hsM (f:=str) (xs:=x14.2.2) rfl rfl rfl he23)) ?_
   refine dy [1] [] (str (e23)) rfl (e_ld rfl (ld_at (path:=[]) rfl rfl rfl (ra_n) (get_map (f:=str) (xs:=x14.2.2) he23) rfl rfl rfl)) ?_
   refine dk 2 [55,54] [I (x21),.hs 1 0 [] 1 0 ((x14.2.2).map str).length] ?_
   obtain ⟨e24,he24,h⟩:=bS h
   refine dy [1] [] (.hp 1 0 [] 1 (0 + Int.toNat (x21)) 0) rfl (e_indexAddr rfl rfl rfl (ix_hsM (f:=str) (xs:=x14.2.2) rfl rfl rfl he24)) ?_
   refine dy [1] [] (str (e24)) rfl (e_ld rfl (ld_at (path:=[]) rfl rfl rfl (ra_n) (get_map (f:=str) (xs:=x14.2.2) he24) rfl rfl rfl)) ?_
   obtain ⟨r25,hr25,h⟩:=bS h
   refine dy [] [] (B (r25)) rfl (e_callV rfl rfl (call_P rfl rfl rfl (avS (shP rfl) (avS (shP rfl) (avN))) (Ffa_F hr25) (.inr rfl) (bl_n) rfl rfl rfl)) ?_ (w_callO rfl rfl rfl rfl (avS (shP rfl) (avS (shP rfl) (avN))) (Ffa_F hr25) (.inr rfl) rfl)
   refine dk 1 [59] [B (r25)] ?_
   refine de 226 rfl rfl ?_
   exact rf [0,1,9,10,59] [1] (j22 _ (Option.some.inj h).symm :)
 · refine dk 10 [59,58,57,56,55,54,53,52,51,50] [B (false),.und,.und,.und,.und,.und,.und,.und,.und,.und] ?_
   refine de 226 rfl rfl ?_
   exact rf [0,1,9,10,59] [1] (j22 _ (Option.some.inj h).symm :)
theorem Ffbp_la_run (data_8 : List Str) (a_9 : Int) (b_10 : Int) (pivot_11 : Int)  {Q : St→Prop} {K : List It} (hK : noD K=true) : ∀ (x14 : Int × Int × (List Str)) (y : (Int × (List Str)) ⊕ (Int × (List Str))),Ffbp_la data_8 a_9 b_10 pivot_11 x14=some y→(∀ r',y=.inl r'→∀ st,Ffbp_Q (data_8,a_9,b_10,pivot_11) r' st→Q st)→(∀ u : Int × (List Str),y=.inr u→Run Ffbp_E 1 Q K (sT 84 [(9,I (u.1))] [⟨0,1,(u.2).map str⟩] 2))→Run Ffbp_E 1 Q (.code (cL (cL (cL (cR (cR (cR Ffbp_c)))))) :: .lp (cL (cL (cL (cR (cR (cR Ffbp_c)))))) :: .blk 0 :: K) (sT 84 [(0,.hs 1 0 [] 1 0 ((x14.2.2).map str).length),(1,I (a_9)),(9,I (x14.1)),(10,I (x14.2.1))] [⟨0,1,(x14.2.2).map str⟩] 2):=by
 refine fix_indP (Ffbp_la_fin data_8 a_9 b_10 pivot_11) ?_
 intro self ih x14 y h hr hn
 unfold Ffbp_la_F at h
 refine aq 3 ?_
 obtain ⟨y20,hy20,hy201,hy202⟩:=bL h
 refine s_loop rfl ?_
 refine rf [0,1,9,10] [1] (Ffbp_lb_run data_8 a_9 b_10 pivot_11 x14 rfl x14.1 _ hy20 (fun r' e st hq=>hr r' (hy201 r' e) st hq) fun u20 hu=>?_)
 replace h:=hy202 u20 hu
 refine aq 2 ?_
 obtain ⟨y26,hy26,hy261,hy262⟩:=bL h
 refine s_loop rfl ?_
 refine rf [0,1,9,10] [1] (Ffbp_lc_run data_8 a_9 b_10 pivot_11 u20 x14 rfl x14.2.1 _ hy26 (fun r' e st hq=>hr r' (hy261 r' e) st hq) fun u26 hu=>?_)
 replace h:=hy262 u26 hu
 refine cq 7 [64] [B ((decide (u20 > u26)))] 50 ?_
 refine sq h (fun h=>?_) (fun h=>?_)
 · refine aq 1 ?_
   exact rf [9] [1] (hn _ (Option.some.inj h).symm :) (hk:=hK)
 · refine aq 1 ?_
   refine aq 1 ?_
   refine s_draw [0,0,0,0,0,0,48,112,0,0,768,1792,4083,8179,16383,32767] rfl (by decide +kernel) ?_
   refine dk 6 [70,69,68,67,66,65] [I (u26),.hs 1 0 [] 1 0 ((x14.2.2).map str).length,I (u26),.hs 1 0 [] 1 0 ((x14.2.2).map str).length,I (u20),.hs 1 0 [] 1 0 ((x14.2.2).map str).length] ?_
   obtain ⟨e27,he27,h⟩:=bS h
   refine dq [1] [] (.hp 1 0 [] 1 (0 + Int.toNat (u26)) 0) rfl (e_indexAddr rfl rfl rfl (ix_hsM (f:=str) (xs:=x14.2.2) rfl rfl rfl he27)) ?_
   refine dq [1] [] (str (e27)) rfl (e_ld rfl (ld_at (path:=[]) rfl rfl rfl (ra_n) (get_map (f:=str) (xs:=x14.2.2) he27) rfl rfl rfl)) ?_
   refine dk 2 [74,73] [I (u20),.hs 1 0 [] 1 0 ((x14.2.2).map str).length] ?_
   obtain ⟨e28,he28,h⟩:=bS h
   refine dq [1] [] (.hp 1 0 [] 1 (0 + Int.toNat (u20)) 0) rfl (e_indexAddr rfl rfl rfl (ix_hsM (f:=str) (xs:=x14.2.2) rfl rfl rfl he28)) ?_
   refine dq [1] [] (str (e28)) rfl (e_ld rfl (ld_at (path:=[]) rfl rfl rfl (ra_n) (get_map (f:=str) (xs:=x14.2.2) he28) rfl rfl rfl)) ?_
   obtain ⟨e29,he29,h⟩:=bS h
   refine dq [1] [] (.hp 1 0 [] 1 (0 + Int.toNat (u20)) 0) rfl (e_indexAddr rfl rfl rfl (ix_hsM (f:=str) (xs:=x14.2.2) rfl rfl rfl he29)) ?_
   refine dz [1] [1] rfl (e_st rfl rfl (st_at (path:=[]) (pl:=true) (e':=str (e27)) (es2':=((setI x14.2.2 u20 e27)).map str) rfl (absorb_plain rfl) rfl rfl rfl (ra_n) (get_map (f:=str) (xs:=x14.2.2) he29) rfl rfl rfl (set_map (f:=str) (xs:=x14.2.2) (y:=e27)) (sr_n) 0 rfl)) ?_
   try rw [← len_setM (f:=str) (xs:=x14.2.2) (i:=u20) (z:=e27)]
   obtain ⟨e32,he32,h⟩:=bS h
   refine dq [1] [] (.hp 1 0 [] 1 (0 + Int.toNat (u26)) 0) rfl (e_indexAddr rfl rfl rfl (ix_hsM (f:=str) (xs:=(setI x14.2.2 u20 e27)) rfl rfl rfl he32)) ?_
   refine dz [1] [1] rfl (e_st rfl rfl (st_at (path:=[]) (pl:=true) (e':=str (e28)) (es2':=((setI (setI x14.2.2 u20 e27) u26 e28)).map str) rfl (absorb_plain rfl) rfl rfl rfl (ra_n) (get_map (f:=str) (xs:=(setI x14.2.2 u20 e27)) he32) rfl rfl rfl (set_map (f:=str) (xs:=(setI x14.2.2 u20 e27)) (y:=e28)) (sr_n) 0 rfl)) ?_
   try rw [← len_setM (f:=str) (xs:=(setI x14.2.2 u20 e27)) (i:=u26) (z:=e28)]
   refine de 306 rfl rfl ?_
   refine cq 12 [9,10] [I ((w64 (u20 + 1))),I ((w64 (u26 - 1)))] 402 ?_
   refine s_lp ?_
   exact rf [0,1,9,10] [1] (ih _ _ h hr hn :)
theorem Ffbp_run (data_8 : List Str) (a_9 : Int) (b_10 : Int) (pivot_11 : Int) (r : Int × (List Str)) (h : Ffbp data_8 a_9 b_10 pivot_11=some r) : RunF Ffbp_E Tryd.f147 [true,false,false,false] 1 (Ffbp_A (data_8,a_9,b_10,pivot_11)) (Ffbp_R r):=by
 show Run _ _ (Ffbp_Q (data_8,a_9,b_10,pivot_11) r) [.code Ffbp_c] _
 refine rin (n:=84) [(0,.hs 1 0 [] 1 0 ((data_8).map str).length),(1,I (a_9)),(2,I (b_10)),(3,I (pivot_11))] [(1,some ⟨0,1,(data_8).map str⟩)] 2 (by kernel_rfl) (by kernel_rfl) (by kernel_rfl) rfl ?_
 unfold Ffbp at h
 refine cq 5 [] [] 18 ?_
 refine s_draw [0,0,0,0,0,0,48,112,0,0,768,1792,4083,8179,16383,32767] rfl (by decide +kernel) ?_
 refine dk 6 [16,15,14,13,12,11] [I (pivot_11),.hs 1 0 [] 1 0 ((data_8).map str).length,I (pivot_11),.hs 1 0 [] 1 0 ((data_8).map str).length,I (a_9),.hs 1 0 [] 1 0 ((data_8).map str).length] ?_
 obtain ⟨e5,he5,h⟩:=bS h
 refine dq [1] [] (.hp 1 0 [] 1 (0 + Int.toNat (pivot_11)) 0) rfl (e_indexAddr rfl rfl rfl (ix_hsM (f:=str) (xs:=data_8) rfl rfl rfl he5)) ?_
 refine dq [1] [] (str (e5)) rfl (e_ld rfl (ld_at (path:=[]) rfl rfl rfl (ra_n) (get_map (f:=str) (xs:=data_8) he5) rfl rfl rfl)) ?_
 refine dk 2 [20,19] [I (a_9),.hs 1 0 [] 1 0 ((data_8).map str).length] ?_
 obtain ⟨e6,he6,h⟩:=bS h
 refine dq [1] [] (.hp 1 0 [] 1 (0 + Int.toNat (a_9)) 0) rfl (e_indexAddr rfl rfl rfl (ix_hsM (f:=str) (xs:=data_8) rfl rfl rfl he6)) ?_
 refine dq [1] [] (str (e6)) rfl (e_ld rfl (ld_at (path:=[]) rfl rfl rfl (ra_n) (get_map (f:=str) (xs:=data_8) he6) rfl rfl rfl)) ?_
 obtain ⟨e7,he7,h⟩:=bS h
 refine dq [1] [] (.hp 1 0 [] 1 (0 + Int.toNat (a_9)) 0) rfl (e_indexAddr rfl rfl rfl (ix_hsM (f:=str) (xs:=data_8) rfl rfl rfl he7)) ?_
 refine dz [1] [1] rfl (e_st rfl rfl (st_at (path:=[]) (pl:=true) (e':=str (e5)) (es2':=((setI data_8 a_9 e5)).map str) rfl (absorb_plain rfl) rfl rfl rfl (ra_n) (get_map (f:=str) (xs:=data_8) he7) rfl rfl rfl (set_map (f:=str) (xs:=data_8) (y:=e5)) (sr_n) 0 rfl)) ?_
 try rw [← len_setM (f:=str) (xs:=data_8) (i:=a_9) (z:=e5)]
 obtain ⟨e10,he10,h⟩:=bS h
 refine dq [1] [] (.hp 1 0 [] 1 (0 + Int.toNat (pivot_11)) 0) rfl (e_indexAddr rfl rfl rfl (ix_hsM (f:=str) (xs:=(setI data_8 a_9 e5)) rfl rfl rfl he10)) ?_
 refine dz [1] [1] rfl (e_st rfl rfl (st_at (path:=[]) (pl:=true) (e':=str (e6)) (es2':=((setI (setI data_8 a_9 e5) pivot_11 e6)).map str) rfl (absorb_plain rfl) rfl rfl rfl (ra_n) (get_map (f:=str) (xs:=(setI data_8 a_9 e5)) he10) rfl rfl rfl (set_map (f:=str) (xs:=(setI data_8 a_9 e5)) (y:=e6)) (sr_n) 0 rfl)) ?_
 try rw [← len_setM (f:=str) (xs:=(setI data_8 a_9 e5)) (i:=pivot_11) (z:=e6)]
 refine de 274 rfl rfl ?_
 refine cq 11 [9,10] [I ((w64 (a_9 + 1))),I ((w64 (b_10 - 1)))] 370 ?_
 obtain ⟨y36,hy36,hy361,hy362⟩:=bJ h
 refine s_loop rfl ?_
 refine rf [0,1,9,10] [1] (Ffbp_la_run data_8 a_9 b_10 pivot_11 rfl ((w64 (a_9 + 1)),(w64 (b_10 - 1)),(setI (setI data_8 a_9 e5) pivot_11 e6)) _ hy36 (fun r' e st hq=>by rw [hy361 r' e] at hq; exact hq) fun u36 hu=>?_)
 replace h:=hy362 u36 hu
 refine cq 5 [8] [I (u36.1)] 34 ?_
 obtain ⟨g37,h⟩:=gG h
 obtain rfl:=Option.some.inj h
 exact s_ret rfl ⟨_,fin (vs:=[I (u36.1)]) rfl (absE (absorb_plain rfl) (absEN)) rfl (ou_1 rfl (oc_hsG (f:=str) (xs:=u36.2) (by simpa using g37) rfl) (ou_f (ou_f (ou_f (ou_n))))),kl_c (kl_n)⟩
theorem Ffbp_good {G : Go.Ln.Ground} : Good Tryd.prog G 147 Ffbp_ent:=good_T (fnOf_good (gl_c Ffa_good (gl_n))) agree_mk (Checked.mixed Tryd.checked) Tryd.func147 (n:=4) (m:=1) ⟨rfl,rfl,by decide⟩ (fun _=>⟨rfl,rfl⟩) (fun a r h=>Ffbp_run a.1 a.2.1 a.2.2.1 a.2.2.2 r h)
def Ffbq_A : ((List Str) × Int × Int × Int)→List V:=cA (usE 1 str) (cA I (cA I (oA I)))
def Ffbq_R (r : Int × Bool × (List Str)) : V × List V:=(.tup [I (r.1),B (r.2.1)],[.usl 1 ((r.2.2).map str)])
noncomputable def Ffbq_ent : Ent:=entT [true,false,false,false] Ffbq_A Ffbq_R fun x=>Ffbq x.1 x.2.1 x.2.2.1 x.2.2.2
theorem Ffbq_F {data_8 : List Str} {a_9 : Int} {b_10 : Int} {pivot_11 : Int} {r} (h : Ffbq data_8 a_9 b_10 pivot_11=some r) : (Ffbq_ent).F (Ffbq_A (data_8,a_9,b_10,pivot_11))=some (Ffbq_R r):=entT_F (cA_inj (usl_inj str_inj) (cA_inj I_inj (cA_inj I_inj (oA_inj I_inj)))) h
noncomputable def Ffbq_c : Code:=bodyOf Tryd.f148
noncomputable abbrev Ffbq_ka : Code:=cL (cL (cL (cR (cR (cR Ffbq_c)))))
noncomputable abbrev Ffbq_kb : Code:=cL (cL (cL (cR (cR (cR (cR Ffbq_c))))))
noncomputable abbrev Ffbq_kc : Code:=cL (cL (cL (cR (cR (cR (cR (cR (cR (cR (cR (cR Ffbq_c)))))))))))
noncomputable abbrev Ffbq_kd : Code:=cL (cL (cL (cL Ffbq_kc)))
noncomputable abbrev Ffbq_ke : Code:=cL (cL (cL (cR (cL Ffbq_kc))))
noncomputable def Ffbq_E : Env:=mkE Tryd.prog [(146,Ffa_ent)]
def Ffbq_Q (x : (List Str) × Int × Int × Int) (r : Int × Bool × (List Str)) : St→Prop:=QF Ffbq_E Tryd.f148 [true,false,false,false] (Ffbq_A x) (Ffbq_R r)
theorem Ffbq_la_run (data_8 : List Str) (a_9 : Int) (b_10 : Int) (pivot_11 : Int) (e5 : Str) (e6 : Str) {Q : St→Prop} {K : List It} (hK : noD K=true) : ∀ (x14 : Int) (y : (Int × Bool × (List Str)) ⊕ (Int × Int)),Ffbq_la data_8 a_9 b_10 pivot_11 e5 e6 x14=some y→(∀ r',y=.inl r'→∀ st,Ffbq_Q (data_8,a_9,b_10,pivot_11) r' st→Q st)→(∀ u : Int × Int,y=.inr u→Run Ffbq_E 1 Q K (sT 168 [(0,.hs 1 0 [] 1 0 (((setI (setI data_8 a_9 e5) pivot_11 e6)).map str).length),(1,I (a_9)),(10,I (u.1)),(11,I (u.2))] [⟨0,1,((setI (setI data_8 a_9 e5) pivot_11 e6)).map str⟩] 2))→Run Ffbq_E 1 Q (.code Ffbq_ka :: .lp Ffbq_ka :: .blk 0 :: K) (sT 168 [(0,.hs 1 0 [] 1 0 (((setI (setI data_8 a_9 e5) pivot_11 e6)).map str).length),(1,I (a_9)),(10,I (x14)),(11,I ((w64 (b_10 - 1))))] [⟨0,1,((setI (setI data_8 a_9 e5) pivot_11 e6)).map str⟩] 2):=by
 refine fix_indP (Ffbq_la_fin data_8 a_9 b_10 pivot_11 e5 e6) ?_
 intro self ih x14 y h hr hn
 unfold Ffbq_la_F at h
 refine aq 2 ?_
 refine s_draw [0,0,3,7,15,15,63,127,15,15,783,1807,4095,8191] rfl (by decide +kernel) ?_
 refine dk 4 [33,32,31,30] [B ((decide (x14 ≤ (w64 (b_10 - 1))))),B ((decide (x14 ≤ (w64 (b_10 - 1))))),I ((w64 (b_10 - 1))),I (x14)] ?_
 obtain ⟨y15,hy15,hy151,hy152⟩:=bL h
 have j15 : ∀ u15,y15=.inr u15→Run Ffbq_E 1 Q (.code (cR (cL Ffbq_ka)) :: .code (cR Ffbq_ka) :: .lp Ffbq_ka :: .blk 0 :: K) (sT 168 [(0,.hs 1 0 [] 1 0 (((setI (setI data_8 a_9 e5) pivot_11 e6)).map str).length),(1,I (a_9)),(10,I (x14)),(11,I ((w64 (b_10 - 1)))),(43,B (u15))] [⟨0,1,((setI (setI data_8 a_9 e5) pivot_11 e6)).map str⟩] 2):=by
   intro u15 hu
   replace h:=hy152 u15 hu
   refine sq h (fun h=>?_) (fun h=>?_)
   · refine aq 1 ?_
     refine cq 7 [10] [I ((w64 (x14 + 1)))] 50 ?_
     refine s_lp ?_
     exact rf [0,1,10,11] [1] (ih _ _ h hr hn :)
   · refine aq 1 ?_
     exact rf [0,1,10,11] [1] (hn _ (Option.some.inj h).symm :) (hk:=hK)
 have r15 : ∀ r',y15=.inl r'→∀ st,Ffbq_Q (data_8,a_9,b_10,pivot_11) r' st→Q st:=fun r' e st hq=>hr r' (hy151 r' e) st hq
 replace h:=hy15
 refine sp 33 h rfl (fun h=>?_) (fun h=>?_)
 · refine dk 2 [35,34] [I (x14),.hs 1 0 [] 1 0 (((setI (setI data_8 a_9 e5) pivot_11 e6)).map str).length] ?_
   obtain ⟨e16,he16,h⟩:=bS h
   refine dy [1] [] (.hp 1 0 [] 1 (0 + Int.toNat (x14)) 0) rfl (e_indexAddr rfl rfl rfl (ix_hsM (f:=str) (xs:=(setI (setI data_8 a_9 e5) pivot_11 e6)) rfl rfl rfl he16)) ?_
   refine dy [1] [] (str (e16)) rfl (e_ld rfl (ld_at (path:=[]) rfl rfl rfl (ra_n) (get_map (f:=str) (xs:=(setI (setI data_8 a_9 e5) pivot_11 e6)) he16) rfl rfl rfl)) ?_
   refine dk 2 [39,38] [I (a_9),.hs 1 0 [] 1 0 (((setI (setI data_8 a_9 e5) pivot_11 e6)).map str).length] ?_
   obtain ⟨e17,he17,h⟩:=bS h
   refine dy [1] [] (.hp 1 0 [] 1 (0 + Int.toNat (a_9)) 0) rfl (e_indexAddr rfl rfl rfl (ix_hsM (f:=str) (xs:=(setI (setI data_8 a_9 e5) pivot_11 e6)) rfl rfl rfl he17)) ?_
   refine dy [1] [] (str (e17)) rfl (e_ld rfl (ld_at (path:=[]) rfl rfl rfl (ra_n) (get_map (f:=str) (xs:=(setI (setI data_8 a_9 e5) pivot_11 e6)) he17) rfl rfl rfl)) ?_
   obtain ⟨r18,hr18,h⟩:=bS h
   refine dy [] [] (B (r18)) rfl (e_callV rfl rfl (call_P rfl rfl rfl (avS (shP rfl) (avS (shP rfl) (avN))) (Ffa_F hr18) (.inr rfl) (bl_n) rfl rfl rfl)) ?_ (w_callO rfl rfl rfl rfl (avS (shP rfl) (avS (shP rfl) (avN))) (Ffa_F hr18) (.inr rfl) rfl)
   refine dk 1 [43] [B (r18)] ?_
   refine de 226 rfl rfl ?_
   exact rf [0,1,10,11,43] [1] (j15 _ (Option.some.inj h).symm :)
 · refine dk 10 [43,42,41,40,39,38,37,36,35,34] [B (false),.und,.und,.und,.und,.und,.und,.und,.und,.und] ?_
   refine de 226 rfl rfl ?_
   exact rf [0,1,10,11,43] [1] (j15 _ (Option.some.inj h).symm :)
theorem Ffbq_lb_run (data_8 : List Str) (a_9 : Int) (b_10 : Int) (pivot_11 : Int) (u19 : Int × Int) (e5 : Str) (e6 : Str) {Q : St→Prop} {K : List It} (hK : noD K=true) : ∀ (x20 : Int) (y : (Int × Bool × (List Str)) ⊕ Int),Ffbq_lb data_8 a_9 b_10 pivot_11 u19 e5 e6 x20=some y→(∀ r',y=.inl r'→∀ st,Ffbq_Q (data_8,a_9,b_10,pivot_11) r' st→Q st)→(∀ u : Int,y=.inr u→Run Ffbq_E 1 Q K (sT 168 [(0,.hs 1 0 [] 1 0 (((setI (setI data_8 a_9 e5) pivot_11 e6)).map str).length),(1,I (a_9)),(10,I (u19.1)),(11,I (u))] [⟨0,1,((setI (setI data_8 a_9 e5) pivot_11 e6)).map str⟩] 2))→Run Ffbq_E 1 Q (.code Ffbq_kb :: .lp Ffbq_kb :: .blk 2 :: K) (sT 168 [(0,.hs 1 0 [] 1 0 (((setI (setI data_8 a_9 e5) pivot_11 e6)).map str).length),(1,I (a_9)),(10,I (u19.1)),(11,I (x20))] [⟨0,1,((setI (setI data_8 a_9 e5) pivot_11 e6)).map str⟩] 2):=by
 refine fix_indP (Ffbq_lb_fin data_8 a_9 b_10 pivot_11 u19 e5 e6) ?_
 intro self ih x20 y h hr hn
 unfold Ffbq_lb_F at h
 refine aq 2 ?_
 refine s_draw [0,0,3,7,15,15,63,127,15,15,783,1807,4095,8191,16383] rfl (by decide +kernel) ?_
 refine dk 4 [49,48,47,46] [B ((decide (u19.1 ≤ x20))),B ((decide (u19.1 ≤ x20))),I (x20),I (u19.1)] ?_
 obtain ⟨y21,hy21,hy211,hy212⟩:=bL h
 have j21 : ∀ u21,y21=.inr u21→Run Ffbq_E 1 Q (.code (cR (cL Ffbq_kb)) :: .code (cR Ffbq_kb) :: .lp Ffbq_kb :: .blk 2 :: K) (sT 168 [(0,.hs 1 0 [] 1 0 (((setI (setI data_8 a_9 e5) pivot_11 e6)).map str).length),(1,I (a_9)),(10,I (u19.1)),(11,I (x20)),(60,B (u21))] [⟨0,1,((setI (setI data_8 a_9 e5) pivot_11 e6)).map str⟩] 2):=by
   intro u21 hu
   replace h:=hy212 u21 hu
   refine sq h (fun h=>?_) (fun h=>?_)
   · refine aq 1 ?_
     refine cq 7 [11] [I ((w64 (x20 - 1)))] 50 ?_
     refine s_lp ?_
     exact rf [0,1,10,11] [1] (ih _ _ h hr hn :)
   · refine aq 1 ?_
     exact rf [0,1,10,11] [1] (hn _ (Option.some.inj h).symm :) (hk:=hK)
 have r21 : ∀ r',y21=.inl r'→∀ st,Ffbq_Q (data_8,a_9,b_10,pivot_11) r' st→Q st:=fun r' e st hq=>hr r' (hy211 r' e) st hq
 replace h:=hy21
 refine sp 49 h rfl (fun h=>?_) (fun h=>?_)
 · refine dk 2 [51,50] [I (x20),.hs 1 0 [] 1 0 (((setI (setI data_8 a_9 e5) pivot_11 e6)).map str).length] ?_
   obtain ⟨e22,he22,h⟩:=bS h
   refine dy [1] [] (.hp 1 0 [] 1 (0 + Int.toNat (x20)) 0) rfl (e_indexAddr rfl rfl rfl (ix_hsM (f:=str) (xs:=(setI (setI data_8 a_9 e5) pivot_11 e6)) rfl rfl rfl he22)) ?_
   refine dy [1] [] (str (e22)) rfl (e_ld rfl (ld_at (path:=[]) rfl rfl rfl (ra_n) (get_map (f:=str) (xs:=(setI (setI data_8 a_9 e5) pivot_11 e6)) he22) rfl rfl rfl)) ?_
   refine dk 2 [55,54] [I (a_9),.hs 1 0 [] 1 0 (((setI (setI data_8 a_9 e5) pivot_11 e6)).map str).length] ?_
   obtain ⟨e23,he23,h⟩:=bS h
   refine dy [1] [] (.hp 1 0 [] 1 (0 + Int.toNat (a_9)) 0) rfl (e_indexAddr rfl rfl rfl (ix_hsM (f:=str) (xs:=(setI (setI data_8 a_9 e5) pivot_11 e6)) rfl rfl rfl he23)) ?_
   refine dy [1] [] (str (e23)) rfl (e_ld rfl (ld_at (path:=[]) rfl rfl rfl (ra_n) (get_map (f:=str) (xs:=(setI (setI data_8 a_9 e5) pivot_11 e6)) he23) rfl rfl rfl)) ?_
   obtain ⟨r24,hr24,h⟩:=bS h
   refine dy [] [] (B (r24)) rfl (e_callV rfl rfl (call_P rfl rfl rfl (avS (shP rfl) (avS (shP rfl) (avN))) (Ffa_F hr24) (.inr rfl) (bl_n) rfl rfl rfl)) ?_ (w_callO rfl rfl rfl rfl (avS (shP rfl) (avS (shP rfl) (avN))) (Ffa_F hr24) (.inr rfl) rfl)
   refine dk 2 [60,59] [B ((!r24)),B ((!r24))] ?_
   refine de 242 rfl rfl ?_
   exact rf [0,1,10,11,60] [1] (j21 _ (Option.some.inj h).symm :)
 · refine dk 11 [60,59,58,57,56,55,54,53,52,51,50] [B (false),.und,.und,.und,.und,.und,.und,.und,.und,.und,.und] ?_
   refine de 242 rfl rfl ?_
   exact rf [0,1,10,11,60] [1] (j21 _ (Option.some.inj h).symm :)
theorem Ffbq_ld_run (data_8 : List Str) (a_9 : Int) (b_10 : Int) (pivot_11 : Int) (x45 : Int × Int × (List Str)) {Q : St→Prop} {K : List It} (hK : noD K=true) : ∀ (x46 : Int) (y : (Int × Bool × (List Str)) ⊕ Int),Ffbq_ld data_8 a_9 b_10 pivot_11 x45 x46=some y→(∀ r',y=.inl r'→∀ st,Ffbq_Q (data_8,a_9,b_10,pivot_11) r' st→Q st)→(∀ u : Int,y=.inr u→Run Ffbq_E 1 Q K (sT 168 [(0,.hs 1 0 [] 1 0 ((x45.2.2).map str).length),(1,I (a_9)),(10,I (u)),(11,I (x45.2.1))] [⟨0,1,(x45.2.2).map str⟩] 2))→Run Ffbq_E 1 Q (.code Ffbq_kd :: .lp Ffbq_kd :: .blk 6 :: K) (sT 168 [(0,.hs 1 0 [] 1 0 ((x45.2.2).map str).length),(1,I (a_9)),(10,I (x46)),(11,I (x45.2.1))] [⟨0,1,(x45.2.2).map str⟩] 2):=by
 refine fix_indP (Ffbq_ld_fin data_8 a_9 b_10 pivot_11 x45) ?_
 intro self ih x46 y h hr hn
 unfold Ffbq_ld_F at h
 refine aq 2 ?_
 refine s_draw [0,0,3,7,15,15,63,127,15,15,783,1807,4095,8191] rfl (by decide +kernel) ?_
 refine dk 4 [102,101,100,99] [B ((decide (x46 ≤ x45.2.1))),B ((decide (x46 ≤ x45.2.1))),I (x45.2.1),I (x46)] ?_
 obtain ⟨y47,hy47,hy471,hy472⟩:=bL h
 have j47 : ∀ u47,y47=.inr u47→Run Ffbq_E 1 Q (.code (cR (cL Ffbq_kd)) :: .code (cR Ffbq_kd) :: .lp Ffbq_kd :: .blk 6 :: K) (sT 168 [(0,.hs 1 0 [] 1 0 ((x45.2.2).map str).length),(1,I (a_9)),(10,I (x46)),(11,I (x45.2.1)),(112,B (u47))] [⟨0,1,(x45.2.2).map str⟩] 2):=by
   intro u47 hu
   replace h:=hy472 u47 hu
   refine sq h (fun h=>?_) (fun h=>?_)
   · refine aq 1 ?_
     refine cq 7 [10] [I ((w64 (x46 + 1)))] 50 ?_
     refine s_lp ?_
     exact rf [0,1,10,11] [1] (ih _ _ h hr hn :)
   · refine aq 1 ?_
     exact rf [0,1,10,11] [1] (hn _ (Option.some.inj h).symm :) (hk:=hK)
 have r47 : ∀ r',y47=.inl r'→∀ st,Ffbq_Q (data_8,a_9,b_10,pivot_11) r' st→Q st:=fun r' e st hq=>hr r' (hy471 r' e) st hq
 replace h:=hy47
 refine sp 102 h rfl (fun h=>?_) (fun h=>?_)
 · refine dk 2 [104,103] [I (x46),.hs 1 0 [] 1 0 ((x45.2.2).map str).length] ?_
   obtain ⟨e48,he48,h⟩:=bS h
   refine dy [1] [] (.hp 1 0 [] 1 (0 + Int.toNat (x46)) 0) rfl (e_indexAddr rfl rfl rfl (ix_hsM (f:=str) (xs:=x45.2.2) rfl rfl rfl he48)) ?_
   refine dy [1] [] (str (e48)) rfl (e_ld rfl (ld_at (path:=[]) rfl rfl rfl (ra_n) (get_map (f:=str) (xs:=x45.2.2) he48) rfl rfl rfl)) ?_
   refine dk 2 [108,107] [I (a_9),.hs 1 0 [] 1 0 ((x45.2.2).map str).length] ?_
   obtain ⟨e49,he49,h⟩:=bS h
   refine dy [1] [] (.hp 1 0 [] 1 (0 + Int.toNat (a_9)) 0) rfl (e_indexAddr rfl rfl rfl (ix_hsM (f:=str) (xs:=x45.2.2) rfl rfl rfl he49)) ?_
   refine dy [1] [] (str (e49)) rfl (e_ld rfl (ld_at (path:=[]) rfl rfl rfl (ra_n) (get_map (f:=str) (xs:=x45.2.2) he49) rfl rfl rfl)) ?_
   obtain ⟨r50,hr50,h⟩:=bS h
   refine dy [] [] (B (r50)) rfl (e_callV rfl rfl (call_P rfl rfl rfl (avS (shP rfl) (avS (shP rfl) (avN))) (Ffa_F hr50) (.inr rfl) (bl_n) rfl rfl rfl)) ?_ (w_callO rfl rfl rfl rfl (avS (shP rfl) (avS (shP rfl) (avN))) (Ffa_F hr50) (.inr rfl) rfl)
   refine dk 1 [112] [B (r50)] ?_
   refine de 226 rfl rfl ?_
   exact rf [0,1,10,11,112] [1] (j47 _ (Option.some.inj h).symm :)
 · refine dk 10 [112,111,110,109,108,107,106,105,104,103] [B (false),.und,.und,.und,.und,.und,.und,.und,.und,.und] ?_
   refine de 226 rfl rfl ?_
   exact rf [0,1,10,11,112] [1] (j47 _ (Option.some.inj h).symm :)
theorem Ffbq_le_run (data_8 : List Str) (a_9 : Int) (b_10 : Int) (pivot_11 : Int) (u51 : Int) (x45 : Int × Int × (List Str)) {Q : St→Prop} {K : List It} (hK : noD K=true) : ∀ (x52 : Int) (y : (Int × Bool × (List Str)) ⊕ Int),Ffbq_le data_8 a_9 b_10 pivot_11 u51 x45 x52=some y→(∀ r',y=.inl r'→∀ st,Ffbq_Q (data_8,a_9,b_10,pivot_11) r' st→Q st)→(∀ u : Int,y=.inr u→Run Ffbq_E 1 Q K (sT 168 [(0,.hs 1 0 [] 1 0 ((x45.2.2).map str).length),(1,I (a_9)),(10,I (u51)),(11,I (u))] [⟨0,1,(x45.2.2).map str⟩] 2))→Run Ffbq_E 1 Q (.code Ffbq_ke :: .lp Ffbq_ke :: .blk 8 :: K) (sT 168 [(0,.hs 1 0 [] 1 0 ((x45.2.2).map str).length),(1,I (a_9)),(10,I (u51)),(11,I (x52))] [⟨0,1,(x45.2.2).map str⟩] 2):=by
 refine fix_indP (Ffbq_le_fin data_8 a_9 b_10 pivot_11 u51 x45) ?_
 intro self ih x52 y h hr hn
 unfold Ffbq_le_F at h
 refine aq 2 ?_
 refine s_draw [0,0,3,7,15,15,63,127,15,15,783,1807,4095,8191,16383] rfl (by decide +kernel) ?_
 refine dk 4 [118,117,116,115] [B ((decide (u51 ≤ x52))),B ((decide (u51 ≤ x52))),I (x52),I (u51)] ?_
 obtain ⟨y53,hy53,hy531,hy532⟩:=bL h
 have j53 : ∀ u53,y53=.inr u53→Run Ffbq_E 1 Q (.code (cR (cL Ffbq_ke)) :: .code (cR Ffbq_ke) :: .lp Ffbq_ke :: .blk 8 :: K) (sT 168 [(0,.hs 1 0 [] 1 0 ((x45.2.2).map str).length),(1,I (a_9)),(10,I (u51)),(11,I (x52)),(129,B (u53))] [⟨0,1,(x45.2.2).map str⟩] 2):=by
   intro u53 hu
   replace h:=hy532 u53 hu
   refine sq h (fun h=>?_) (fun h=>?_)
   · refine aq 1 ?_
     refine cq 7 [11] [I ((w64 (x52 - 1)))] 50 ?_
     refine s_lp ?_
     exact rf [0,1,10,11] [1] (ih _ _ h hr hn :)
   · refine aq 1 ?_
     exact rf [0,1,10,11] [1] (hn _ (Option.some.inj h).symm :) (hk:=hK)
 have r53 : ∀ r',y53=.inl r'→∀ st,Ffbq_Q (data_8,a_9,b_10,pivot_11) r' st→Q st:=fun r' e st hq=>hr r' (hy531 r' e) st hq
 replace h:=hy53
 refine sp 118 h rfl (fun h=>?_) (fun h=>?_)
 · refine dk 2 [120,119] [I (x52),.hs 1 0 [] 1 0 ((x45.2.2).map str).length] ?_
   obtain ⟨e54,he54,h⟩:=bS h
   refine dy [1] [] (.hp 1 0 [] 1 (0 + Int.toNat (x52)) 0) rfl (e_indexAddr rfl rfl rfl (ix_hsM (f:=str) (xs:=x45.2.2) rfl rfl rfl he54)) ?_
   refine dy [1] [] (str (e54)) rfl (e_ld rfl (ld_at (path:=[]) rfl rfl rfl (ra_n) (get_map (f:=str) (xs:=x45.2.2) he54) rfl rfl rfl)) ?_
   refine dk 2 [124,123] [I (a_9),.hs 1 0 [] 1 0 ((x45.2.2).map str).length] ?_
   obtain ⟨e55,he55,h⟩:=bS h
   refine dy [1] [] (.hp 1 0 [] 1 (0 + Int.toNat (a_9)) 0) rfl (e_indexAddr rfl rfl rfl (ix_hsM (f:=str) (xs:=x45.2.2) rfl rfl rfl he55)) ?_
   refine dy [1] [] (str (e55)) rfl (e_ld rfl (ld_at (path:=[]) rfl rfl rfl (ra_n) (get_map (f:=str) (xs:=x45.2.2) he55) rfl rfl rfl)) ?_
   obtain ⟨r56,hr56,h⟩:=bS h
   refine dy [] [] (B (r56)) rfl (e_callV rfl rfl (call_P rfl rfl rfl (avS (shP rfl) (avS (shP rfl) (avN))) (Ffa_F hr56) (.inr rfl) (bl_n) rfl rfl rfl)) ?_ (w_callO rfl rfl rfl rfl (avS (shP rfl) (avS (shP rfl) (avN))) (Ffa_F hr56) (.inr rfl) rfl)
   refine dk 2 [129,128] [B ((!r56)),B ((!r56))] ?_
   refine de 242 rfl rfl ?_
   exact rf [0,1,10,11,129] [1] (j53 _ (Option.some.inj h).symm :)
 · refine dk 11 [129,128,127,126,125,124,123,122,121,120,119] [B (false),.und,.und,.und,.und,.und,.und,.und,.und,.und,.und] ?_
   refine de 242 rfl rfl ?_
   exact rf [0,1,10,11,129] [1] (j53 _ (Option.some.inj h).symm :)
theorem Ffbq_lc_run (data_8 : List Str) (a_9 : Int) (b_10 : Int) (pivot_11 : Int)  {Q : St→Prop} {K : List It} (hK : noD K=true) : ∀ (x45 : Int × Int × (List Str)) (y : (Int × Bool × (List Str)) ⊕ (Int × (List Str))),Ffbq_lc data_8 a_9 b_10 pivot_11 x45=some y→(∀ r',y=.inl r'→∀ st,Ffbq_Q (data_8,a_9,b_10,pivot_11) r' st→Q st)→(∀ u : Int × (List Str),y=.inr u→Run Ffbq_E 1 Q K (sT 168 [(0,.hs 1 0 [] 1 0 ((u.2).map str).length),(1,I (a_9)),(11,I (u.1))] [⟨0,1,(u.2).map str⟩] 2))→Run Ffbq_E 1 Q (.code Ffbq_kc :: .lp Ffbq_kc :: .blk 4 :: K) (sT 168 [(0,.hs 1 0 [] 1 0 ((x45.2.2).map str).length),(1,I (a_9)),(10,I (x45.1)),(11,I (x45.2.1))] [⟨0,1,(x45.2.2).map str⟩] 2):=by
 refine fix_indP (Ffbq_lc_fin data_8 a_9 b_10 pivot_11) ?_
 intro self ih x45 y h hr hn
 unfold Ffbq_lc_F at h
 refine aq 3 ?_
 obtain ⟨y51,hy51,hy511,hy512⟩:=bL h
 refine s_loop rfl ?_
 refine rf [0,1,10,11] [1] (Ffbq_ld_run data_8 a_9 b_10 pivot_11 x45 rfl x45.1 _ hy51 (fun r' e st hq=>hr r' (hy511 r' e) st hq) fun u51 hu=>?_)
 replace h:=hy512 u51 hu
 refine aq 2 ?_
 obtain ⟨y57,hy57,hy571,hy572⟩:=bL h
 refine s_loop rfl ?_
 refine rf [0,1,10,11] [1] (Ffbq_le_run data_8 a_9 b_10 pivot_11 u51 x45 rfl x45.2.1 _ hy57 (fun r' e st hq=>hr r' (hy571 r' e) st hq) fun u57 hu=>?_)
 replace h:=hy572 u57 hu
 refine cq 7 [134] [B ((decide (u51 > u57)))] 50 ?_
 refine sq h (fun h=>?_) (fun h=>?_)
 · refine aq 1 ?_
   exact rf [0,1,11] [1] (hn _ (Option.some.inj h).symm :) (hk:=hK)
 · refine aq 1 ?_
   refine aq 1 ?_
   refine s_draw [0,0,0,0,0,0,48,112,0,0,768,1792,4083,8179,16383,32767] rfl (by decide +kernel) ?_
   refine dk 6 [140,139,138,137,136,135] [I (u57),.hs 1 0 [] 1 0 ((x45.2.2).map str).length,I (u57),.hs 1 0 [] 1 0 ((x45.2.2).map str).length,I (u51),.hs 1 0 [] 1 0 ((x45.2.2).map str).length] ?_
   obtain ⟨e58,he58,h⟩:=bS h
   refine dq [1] [] (.hp 1 0 [] 1 (0 + Int.toNat (u57)) 0) rfl (e_indexAddr rfl rfl rfl (ix_hsM (f:=str) (xs:=x45.2.2) rfl rfl rfl he58)) ?_
   refine dq [1] [] (str (e58)) rfl (e_ld rfl (ld_at (path:=[]) rfl rfl rfl (ra_n) (get_map (f:=str) (xs:=x45.2.2) he58) rfl rfl rfl)) ?_
   refine dk 2 [144,143] [I (u51),.hs 1 0 [] 1 0 ((x45.2.2).map str).length] ?_
   obtain ⟨e59,he59,h⟩:=bS h
   refine dq [1] [] (.hp 1 0 [] 1 (0 + Int.toNat (u51)) 0) rfl (e_indexAddr rfl rfl rfl (ix_hsM (f:=str) (xs:=x45.2.2) rfl rfl rfl he59)) ?_
   refine dq [1] [] (str (e59)) rfl (e_ld rfl (ld_at (path:=[]) rfl rfl rfl (ra_n) (get_map (f:=str) (xs:=x45.2.2) he59) rfl rfl rfl)) ?_
   obtain ⟨e60,he60,h⟩:=bS h
   refine dq [1] [] (.hp 1 0 [] 1 (0 + Int.toNat (u51)) 0) rfl (e_indexAddr rfl rfl rfl (ix_hsM (f:=str) (xs:=x45.2.2) rfl rfl rfl he60)) ?_
   refine dz [1] [1] rfl (e_st rfl rfl (st_at (path:=[]) (pl:=true) (e':=str (e58)) (es2':=((setI x45.2.2 u51 e58)).map str) rfl (absorb_plain rfl) rfl rfl rfl (ra_n) (get_map (f:=str) (xs:=x45.2.2) he60) rfl rfl rfl (set_map (f:=str) (xs:=x45.2.2) (y:=e58)) (sr_n) 0 rfl)) ?_
   try rw [← len_setM (f:=str) (xs:=x45.2.2) (i:=u51) (z:=e58)]
   obtain ⟨e63,he63,h⟩:=bS h
   refine dq [1] [] (.hp 1 0 [] 1 (0 + Int.toNat (u57)) 0) rfl (e_indexAddr rfl rfl rfl (ix_hsM (f:=str) (xs:=(setI x45.2.2 u51 e58)) rfl rfl rfl he63)) ?_
   refine dz [1] [1] rfl (e_st rfl rfl (st_at (path:=[]) (pl:=true) (e':=str (e59)) (es2':=((setI (setI x45.2.2 u51 e58) u57 e59)).map str) rfl (absorb_plain rfl) rfl rfl rfl (ra_n) (get_map (f:=str) (xs:=(setI x45.2.2 u51 e58)) he63) rfl rfl rfl (set_map (f:=str) (xs:=(setI x45.2.2 u51 e58)) (y:=e59)) (sr_n) 0 rfl)) ?_
   try rw [← len_setM (f:=str) (xs:=(setI x45.2.2 u51 e58)) (i:=u57) (z:=e59)]
   refine de 306 rfl rfl ?_
   refine cq 12 [10,11] [I ((w64 (u51 + 1))),I ((w64 (u57 - 1)))] 402 ?_
   refine s_lp ?_
   exact rf [0,1,10,11] [1] (ih _ _ h hr hn :)
theorem Ffbq_run (data_8 : List Str) (a_9 : Int) (b_10 : Int) (pivot_11 : Int) (r : Int × Bool × (List Str)) (h : Ffbq data_8 a_9 b_10 pivot_11=some r) : RunF Ffbq_E Tryd.f148 [true,false,false,false] 1 (Ffbq_A (data_8,a_9,b_10,pivot_11)) (Ffbq_R r):=by
 show Run _ _ (Ffbq_Q (data_8,a_9,b_10,pivot_11) r) [.code Ffbq_c] _
 refine rin (n:=168) [(0,.hs 1 0 [] 1 0 ((data_8).map str).length),(1,I (a_9)),(2,I (b_10)),(3,I (pivot_11))] [(1,some ⟨0,1,(data_8).map str⟩)] 2 (by kernel_rfl) (by kernel_rfl) (by kernel_rfl) rfl ?_
 unfold Ffbq at h
 refine cq 6 [] [] 34 ?_
 refine s_draw [0,0,0,0,0,0,48,112,0,0,768,1792,4083,8179,16383,32767] rfl (by decide +kernel) ?_
 refine dk 6 [17,16,15,14,13,12] [I (pivot_11),.hs 1 0 [] 1 0 ((data_8).map str).length,I (pivot_11),.hs 1 0 [] 1 0 ((data_8).map str).length,I (a_9),.hs 1 0 [] 1 0 ((data_8).map str).length] ?_
 obtain ⟨e5,he5,h⟩:=bS h
 refine dq [1] [] (.hp 1 0 [] 1 (0 + Int.toNat (pivot_11)) 0) rfl (e_indexAddr rfl rfl rfl (ix_hsM (f:=str) (xs:=data_8) rfl rfl rfl he5)) ?_
 refine dq [1] [] (str (e5)) rfl (e_ld rfl (ld_at (path:=[]) rfl rfl rfl (ra_n) (get_map (f:=str) (xs:=data_8) he5) rfl rfl rfl)) ?_
 refine dk 2 [21,20] [I (a_9),.hs 1 0 [] 1 0 ((data_8).map str).length] ?_
 obtain ⟨e6,he6,h⟩:=bS h
 refine dq [1] [] (.hp 1 0 [] 1 (0 + Int.toNat (a_9)) 0) rfl (e_indexAddr rfl rfl rfl (ix_hsM (f:=str) (xs:=data_8) rfl rfl rfl he6)) ?_
 refine dq [1] [] (str (e6)) rfl (e_ld rfl (ld_at (path:=[]) rfl rfl rfl (ra_n) (get_map (f:=str) (xs:=data_8) he6) rfl rfl rfl)) ?_
 obtain ⟨e7,he7,h⟩:=bS h
 refine dq [1] [] (.hp 1 0 [] 1 (0 + Int.toNat (a_9)) 0) rfl (e_indexAddr rfl rfl rfl (ix_hsM (f:=str) (xs:=data_8) rfl rfl rfl he7)) ?_
 refine dz [1] [1] rfl (e_st rfl rfl (st_at (path:=[]) (pl:=true) (e':=str (e5)) (es2':=((setI data_8 a_9 e5)).map str) rfl (absorb_plain rfl) rfl rfl rfl (ra_n) (get_map (f:=str) (xs:=data_8) he7) rfl rfl rfl (set_map (f:=str) (xs:=data_8) (y:=e5)) (sr_n) 0 rfl)) ?_
 try rw [← len_setM (f:=str) (xs:=data_8) (i:=a_9) (z:=e5)]
 obtain ⟨e10,he10,h⟩:=bS h
 refine dq [1] [] (.hp 1 0 [] 1 (0 + Int.toNat (pivot_11)) 0) rfl (e_indexAddr rfl rfl rfl (ix_hsM (f:=str) (xs:=(setI data_8 a_9 e5)) rfl rfl rfl he10)) ?_
 refine dz [1] [1] rfl (e_st rfl rfl (st_at (path:=[]) (pl:=true) (e':=str (e6)) (es2':=((setI (setI data_8 a_9 e5) pivot_11 e6)).map str) rfl (absorb_plain rfl) rfl rfl rfl (ra_n) (get_map (f:=str) (xs:=(setI data_8 a_9 e5)) he10) rfl rfl rfl (set_map (f:=str) (xs:=(setI data_8 a_9 e5)) (y:=e6)) (sr_n) 0 rfl)) ?_
 try rw [← len_setM (f:=str) (xs:=(setI data_8 a_9 e5)) (i:=pivot_11) (z:=e6)]
 refine de 290 rfl rfl ?_
 refine cq 11 [10,11] [I ((w64 (a_9 + 1))),I ((w64 (b_10 - 1)))] 386 ?_
 obtain ⟨y19,hy19,hy191,hy192⟩:=bJ h
 refine s_loop rfl ?_
 refine rf [0,1,10,11] [1] (Ffbq_la_run data_8 a_9 b_10 pivot_11 e5 e6 rfl (w64 (a_9 + 1)) _ hy19 (fun r' e st hq=>by rw [hy191 r' e] at hq; exact hq) fun u19 hu=>?_)
 replace h:=hy192 u19 hu
 refine aq 2 ?_
 obtain ⟨y25,hy25,hy251,hy252⟩:=bJ h
 refine s_loop rfl ?_
 refine rf [0,1,10,11] [1] (Ffbq_lb_run data_8 a_9 b_10 pivot_11 u19 e5 e6 rfl u19.2 _ hy25 (fun r' e st hq=>by rw [hy251 r' e] at hq; exact hq) fun u25 hu=>?_)
 replace h:=hy252 u25 hu
 refine cq 7 [65] [B ((decide (u19.1 > u25)))] 50 ?_
 refine sq h (fun h=>?_) (fun h=>?_)
 · refine aq 1 ?_
   refine s_draw [0,0,0,0,0,0,48,112,0,0,768,1792,4083,8179,16383,32767] rfl (by decide +kernel) ?_
   refine dk 6 [71,70,69,68,67,66] [I (a_9),.hs 1 0 [] 1 0 (((setI (setI data_8 a_9 e5) pivot_11 e6)).map str).length,I (a_9),.hs 1 0 [] 1 0 (((setI (setI data_8 a_9 e5) pivot_11 e6)).map str).length,I (u25),.hs 1 0 [] 1 0 (((setI (setI data_8 a_9 e5) pivot_11 e6)).map str).length] ?_
   obtain ⟨e26,he26,h⟩:=bS h
   refine dq [1] [] (.hp 1 0 [] 1 (0 + Int.toNat (a_9)) 0) rfl (e_indexAddr rfl rfl rfl (ix_hsM (f:=str) (xs:=(setI (setI data_8 a_9 e5) pivot_11 e6)) rfl rfl rfl he26)) ?_
   refine dq [1] [] (str (e26)) rfl (e_ld rfl (ld_at (path:=[]) rfl rfl rfl (ra_n) (get_map (f:=str) (xs:=(setI (setI data_8 a_9 e5) pivot_11 e6)) he26) rfl rfl rfl)) ?_
   refine dk 2 [75,74] [I (u25),.hs 1 0 [] 1 0 (((setI (setI data_8 a_9 e5) pivot_11 e6)).map str).length] ?_
   obtain ⟨e27,he27,h⟩:=bS h
   refine dq [1] [] (.hp 1 0 [] 1 (0 + Int.toNat (u25)) 0) rfl (e_indexAddr rfl rfl rfl (ix_hsM (f:=str) (xs:=(setI (setI data_8 a_9 e5) pivot_11 e6)) rfl rfl rfl he27)) ?_
   refine dq [1] [] (str (e27)) rfl (e_ld rfl (ld_at (path:=[]) rfl rfl rfl (ra_n) (get_map (f:=str) (xs:=(setI (setI data_8 a_9 e5) pivot_11 e6)) he27) rfl rfl rfl)) ?_
   obtain ⟨e28,he28,h⟩:=bS h
   refine dq [1] [] (.hp 1 0 [] 1 (0 + Int.toNat (u25)) 0) rfl (e_indexAddr rfl rfl rfl (ix_hsM (f:=str) (xs:=(setI (setI data_8 a_9 e5) pivot_11 e6)) rfl rfl rfl he28)) ?_
   refine dz [1] [1] rfl (e_st rfl rfl (st_at (path:=[]) (pl:=true) (e':=str (e26)) (es2':=((setI (setI (setI data_8 a_9 e5) pivot_11 e6) u25 e26)).map str) rfl (absorb_plain rfl) rfl rfl rfl (ra_n) (get_map (f:=str) (xs:=(setI (setI data_8 a_9 e5) pivot_11 e6)) he28) rfl rfl rfl (set_map (f:=str) (xs:=(setI (setI data_8 a_9 e5) pivot_11 e6)) (y:=e26)) (sr_n) 0 rfl)) ?_
   try rw [← len_setM (f:=str) (xs:=(setI (setI data_8 a_9 e5) pivot_11 e6)) (i:=u25) (z:=e26)]
   obtain ⟨e31,he31,h⟩:=bS h
   refine dq [1] [] (.hp 1 0 [] 1 (0 + Int.toNat (a_9)) 0) rfl (e_indexAddr rfl rfl rfl (ix_hsM (f:=str) (xs:=(setI (setI (setI data_8 a_9 e5) pivot_11 e6) u25 e26)) rfl rfl rfl he31)) ?_
   refine dz [1] [1] rfl (e_st rfl rfl (st_at (path:=[]) (pl:=true) (e':=str (e27)) (es2':=((setI (setI (setI (setI data_8 a_9 e5) pivot_11 e6) u25 e26) a_9 e27)).map str) rfl (absorb_plain rfl) rfl rfl rfl (ra_n) (get_map (f:=str) (xs:=(setI (setI (setI data_8 a_9 e5) pivot_11 e6) u25 e26)) he31) rfl rfl rfl (set_map (f:=str) (xs:=(setI (setI (setI data_8 a_9 e5) pivot_11 e6) u25 e26)) (y:=e27)) (sr_n) 0 rfl)) ?_
   try rw [← len_setM (f:=str) (xs:=(setI (setI (setI data_8 a_9 e5) pivot_11 e6) u25 e26)) (i:=a_9) (z:=e27)]
   refine de 306 rfl rfl ?_
   refine cq 6 [8,9] [I (u25),B (true)] 354 ?_
   obtain ⟨g35,h⟩:=gG h
   obtain rfl:=Option.some.inj h
   exact s_ret rfl ⟨_,fin (vs:=[I (u25),B (true)]) rfl (absE (absorb_plain rfl) (absE (absorb_plain rfl) (absEN))) rfl (ou_1 rfl (oc_hsG (f:=str) (xs:=(setI (setI (setI (setI data_8 a_9 e5) pivot_11 e6) u25 e26) a_9 e27)) (by simpa using g35) rfl) (ou_f (ou_f (ou_f (ou_n))))),kl_c (kl_n)⟩
 · refine aq 1 ?_
   refine aq 1 ?_
   refine s_draw [0,0,0,0,0,0,48,112,0,0,768,1792,4083,8179,16383,32767] rfl (by decide +kernel) ?_
   refine dk 6 [86,85,84,83,82,81] [I (u25),.hs 1 0 [] 1 0 (((setI (setI data_8 a_9 e5) pivot_11 e6)).map str).length,I (u25),.hs 1 0 [] 1 0 (((setI (setI data_8 a_9 e5) pivot_11 e6)).map str).length,I (u19.1),.hs 1 0 [] 1 0 (((setI (setI data_8 a_9 e5) pivot_11 e6)).map str).length] ?_
   obtain ⟨e36,he36,h⟩:=bS h
   refine dq [1] [] (.hp 1 0 [] 1 (0 + Int.toNat (u25)) 0) rfl (e_indexAddr rfl rfl rfl (ix_hsM (f:=str) (xs:=(setI (setI data_8 a_9 e5) pivot_11 e6)) rfl rfl rfl he36)) ?_
   refine dq [1] [] (str (e36)) rfl (e_ld rfl (ld_at (path:=[]) rfl rfl rfl (ra_n) (get_map (f:=str) (xs:=(setI (setI data_8 a_9 e5) pivot_11 e6)) he36) rfl rfl rfl)) ?_
   refine dk 2 [90,89] [I (u19.1),.hs 1 0 [] 1 0 (((setI (setI data_8 a_9 e5) pivot_11 e6)).map str).length] ?_
   obtain ⟨e37,he37,h⟩:=bS h
   refine dq [1] [] (.hp 1 0 [] 1 (0 + Int.toNat (u19.1)) 0) rfl (e_indexAddr rfl rfl rfl (ix_hsM (f:=str) (xs:=(setI (setI data_8 a_9 e5) pivot_11 e6)) rfl rfl rfl he37)) ?_
   refine dq [1] [] (str (e37)) rfl (e_ld rfl (ld_at (path:=[]) rfl rfl rfl (ra_n) (get_map (f:=str) (xs:=(setI (setI data_8 a_9 e5) pivot_11 e6)) he37) rfl rfl rfl)) ?_
   obtain ⟨e38,he38,h⟩:=bS h
   refine dq [1] [] (.hp 1 0 [] 1 (0 + Int.toNat (u19.1)) 0) rfl (e_indexAddr rfl rfl rfl (ix_hsM (f:=str) (xs:=(setI (setI data_8 a_9 e5) pivot_11 e6)) rfl rfl rfl he38)) ?_
   refine dz [1] [1] rfl (e_st rfl rfl (st_at (path:=[]) (pl:=true) (e':=str (e36)) (es2':=((setI (setI (setI data_8 a_9 e5) pivot_11 e6) u19.1 e36)).map str) rfl (absorb_plain rfl) rfl rfl rfl (ra_n) (get_map (f:=str) (xs:=(setI (setI data_8 a_9 e5) pivot_11 e6)) he38) rfl rfl rfl (set_map (f:=str) (xs:=(setI (setI data_8 a_9 e5) pivot_11 e6)) (y:=e36)) (sr_n) 0 rfl)) ?_
   try rw [← len_setM (f:=str) (xs:=(setI (setI data_8 a_9 e5) pivot_11 e6)) (i:=u19.1) (z:=e36)]
   obtain ⟨e41,he41,h⟩:=bS h
   refine dq [1] [] (.hp 1 0 [] 1 (0 + Int.toNat (u25)) 0) rfl (e_indexAddr rfl rfl rfl (ix_hsM (f:=str) (xs:=(setI (setI (setI data_8 a_9 e5) pivot_11 e6) u19.1 e36)) rfl rfl rfl he41)) ?_
   refine dz [1] [1] rfl (e_st rfl rfl (st_at (path:=[]) (pl:=true) (e':=str (e37)) (es2':=((setI (setI (setI (setI data_8 a_9 e5) pivot_11 e6) u19.1 e36) u25 e37)).map str) rfl (absorb_plain rfl) rfl rfl rfl (ra_n) (get_map (f:=str) (xs:=(setI (setI (setI data_8 a_9 e5) pivot_11 e6) u19.1 e36)) he41) rfl rfl rfl (set_map (f:=str) (xs:=(setI (setI (setI data_8 a_9 e5) pivot_11 e6) u19.1 e36)) (y:=e37)) (sr_n) 0 rfl)) ?_
   try rw [← len_setM (f:=str) (xs:=(setI (setI (setI data_8 a_9 e5) pivot_11 e6) u19.1 e36)) (i:=u25) (z:=e37)]
   refine de 306 rfl rfl ?_
   refine cq 14 [10,11] [I ((w64 (u19.1 + 1))),I ((w64 (u25 - 1)))] 402 ?_
   obtain ⟨y67,hy67,hy671,hy672⟩:=bJ h
   refine s_loop rfl ?_
   refine rf [0,1,10,11] [1] (Ffbq_lc_run data_8 a_9 b_10 pivot_11 rfl ((w64 (u19.1 + 1)),(w64 (u25 - 1)),(setI (setI (setI (setI data_8 a_9 e5) pivot_11 e6) u19.1 e36) u25 e37)) _ hy67 (fun r' e st hq=>by rw [hy671 r' e] at hq; exact hq) fun u67 hu=>?_)
   replace h:=hy672 u67 hu
   refine aq 1 ?_
   refine s_draw [0,0,0,0,0,0,48,112,0,0,768,1792,4083,8179,16383,32767] rfl (by decide +kernel) ?_
   refine dk 6 [158,157,156,155,154,153] [I (a_9),.hs 1 0 [] 1 0 ((u67.2).map str).length,I (a_9),.hs 1 0 [] 1 0 ((u67.2).map str).length,I (u67.1),.hs 1 0 [] 1 0 ((u67.2).map str).length] ?_
   obtain ⟨e68,he68,h⟩:=bS h
   refine dq [1] [] (.hp 1 0 [] 1 (0 + Int.toNat (a_9)) 0) rfl (e_indexAddr rfl rfl rfl (ix_hsM (f:=str) (xs:=u67.2) rfl rfl rfl he68)) ?_
   refine dq [1] [] (str (e68)) rfl (e_ld rfl (ld_at (path:=[]) rfl rfl rfl (ra_n) (get_map (f:=str) (xs:=u67.2) he68) rfl rfl rfl)) ?_
   refine dk 2 [162,161] [I (u67.1),.hs 1 0 [] 1 0 ((u67.2).map str).length] ?_
   obtain ⟨e69,he69,h⟩:=bS h
   refine dq [1] [] (.hp 1 0 [] 1 (0 + Int.toNat (u67.1)) 0) rfl (e_indexAddr rfl rfl rfl (ix_hsM (f:=str) (xs:=u67.2) rfl rfl rfl he69)) ?_
   refine dq [1] [] (str (e69)) rfl (e_ld rfl (ld_at (path:=[]) rfl rfl rfl (ra_n) (get_map (f:=str) (xs:=u67.2) he69) rfl rfl rfl)) ?_
   obtain ⟨e70,he70,h⟩:=bS h
   refine dq [1] [] (.hp 1 0 [] 1 (0 + Int.toNat (u67.1)) 0) rfl (e_indexAddr rfl rfl rfl (ix_hsM (f:=str) (xs:=u67.2) rfl rfl rfl he70)) ?_
   refine dz [1] [1] rfl (e_st rfl rfl (st_at (path:=[]) (pl:=true) (e':=str (e68)) (es2':=((setI u67.2 u67.1 e68)).map str) rfl (absorb_plain rfl) rfl rfl rfl (ra_n) (get_map (f:=str) (xs:=u67.2) he70) rfl rfl rfl (set_map (f:=str) (xs:=u67.2) (y:=e68)) (sr_n) 0 rfl)) ?_
   try rw [← len_setM (f:=str) (xs:=u67.2) (i:=u67.1) (z:=e68)]
   obtain ⟨e73,he73,h⟩:=bS h
   refine dq [1] [] (.hp 1 0 [] 1 (0 + Int.toNat (a_9)) 0) rfl (e_indexAddr rfl rfl rfl (ix_hsM (f:=str) (xs:=(setI u67.2 u67.1 e68)) rfl rfl rfl he73)) ?_
   refine dz [1] [1] rfl (e_st rfl rfl (st_at (path:=[]) (pl:=true) (e':=str (e69)) (es2':=((setI (setI u67.2 u67.1 e68) a_9 e69)).map str) rfl (absorb_plain rfl) rfl rfl rfl (ra_n) (get_map (f:=str) (xs:=(setI u67.2 u67.1 e68)) he73) rfl rfl rfl (set_map (f:=str) (xs:=(setI u67.2 u67.1 e68)) (y:=e69)) (sr_n) 0 rfl)) ?_
   try rw [← len_setM (f:=str) (xs:=(setI u67.2 u67.1 e68)) (i:=a_9) (z:=e69)]
   refine de 258 rfl rfl ?_
   refine cq 6 [8,9] [I (u67.1),B (false)] 306 ?_
   obtain ⟨g77,h⟩:=gG h
   obtain rfl:=Option.some.inj h
   exact s_ret rfl ⟨_,fin (vs:=[I (u67.1),B (false)]) rfl (absE (absorb_plain rfl) (absE (absorb_plain rfl) (absEN))) rfl (ou_1 rfl (oc_hsG (f:=str) (xs:=(setI (setI u67.2 u67.1 e68) a_9 e69)) (by simpa using g77) rfl) (ou_f (ou_f (ou_f (ou_n))))),kl_c (kl_n)⟩
theorem Ffbq_good {G : Go.Ln.Ground} : Good Tryd.prog G 148 Ffbq_ent:=good_T (fnOf_good (gl_c Ffa_good (gl_n))) agree_mk (Checked.mixed Tryd.checked) Tryd.func148 (n:=4) (m:=1) ⟨rfl,rfl,by decide⟩ (fun _=>⟨rfl,rfl⟩) (fun a r h=>Ffbq_run a.1 a.2.1 a.2.2.1 a.2.2.2 r h)
def Ffbr_A : ((List Str) × Int × Int × Int)→List V:=cA (usE 1 str) (cA I (cA I (oA I)))
def Ffbr_R (r : (List Str)) : V × List V:=(.tup [],[.usl 1 ((r).map str)])
noncomputable def Ffbr_entS (slf_Ffbr : ((List Str) × Int × Int × Int)→Option ((List Str))) : Ent:=entT [true,false,false,false] Ffbr_A Ffbr_R slf_Ffbr
theorem Ffbr_FS (slf_Ffbr : ((List Str) × Int × Int × Int)→Option ((List Str))) {x} {r} (h : slf_Ffbr x=some r) : (Ffbr_entS slf_Ffbr).F (Ffbr_A x)=some (Ffbr_R r):=entT_F (cA_inj (usl_inj str_inj) (cA_inj I_inj (cA_inj I_inj (oA_inj I_inj)))) h
noncomputable def Ffbr_ent : Ent:=Ffbr_entS (fixO Ffbr_G)
theorem Ffbr_F {data_7 : List Str} {a_8 : Int} {b_9 : Int} {limit_10 : Int} {r} (h : Ffbr data_7 a_8 b_9 limit_10=some r) : Ffbr_ent.F (Ffbr_A (data_7,a_8,b_9,limit_10))=some (Ffbr_R r):=Ffbr_FS (fixO Ffbr_G) h
noncomputable def Ffbr_c : Code:=bodyOf Tryd.f121
noncomputable abbrev Ffbr_ka : Code:=cL (cL (cR (cR Ffbr_c)))
noncomputable abbrev Ffbr_kb : Code:=cR (cR (cR (cR (cR (cR (cR (cL Ffbr_ka)))))))
noncomputable abbrev Ffbr_kc : Code:=cR (cL (cR (cR (cR (cR (cR (cR (cL Ffbr_ka))))))))
noncomputable def Ffbr_E (slf_Ffbr : ((List Str) × Int × Int × Int)→Option ((List Str))) : Env:=mkE Tryd.prog [(140,Ffbj_ent),(141,Ffbi_ent),(143,Ffbh_ent),(147,Ffbp_ent),(148,Ffbq_ent),(121,(Ffbr_entS slf_Ffbr)),(146,Ffa_ent),(145,Ffbo_ent),(144,Ffbs_ent),(142,Ffbg_ent)]
def Ffbr_Q (slf_Ffbr : ((List Str) × Int × Int × Int)→Option ((List Str))) (x : (List Str) × Int × Int × Int) (r : (List Str)) : St→Prop:=QF (Ffbr_E slf_Ffbr) Tryd.f121 [true,false,false,false] (Ffbr_A x) (Ffbr_R r)
theorem Ffbr_la_run (slf_Ffbr : ((List Str) × Int × Int × Int)→Option ((List Str))) (data_7 : List Str) (a_8 : Int) (b_9 : Int) (limit_10 : Int)  {Q : St→Prop} {K : List It} (hK : noD K=true) : ∀ (x5 : Int × Int × Int × Bool × Bool × (List Str)) (y : ((List Str)) ⊕ Unit),Ffbr_la slf_Ffbr data_7 a_8 b_9 limit_10 x5=some y→(∀ r',y=.inl r'→∀ st,Ffbr_Q slf_Ffbr (data_7,a_8,b_9,limit_10) r' st→Q st)→(∀ u : Unit,y=.inr u→Run (Ffbr_E slf_Ffbr) 1 Q K (sT 134 [] [] 1))→Run (Ffbr_E slf_Ffbr) 1 Q (.code Ffbr_ka :: .lp Ffbr_ka :: .blk 0 :: K) (sT 134 [(0,.hs 1 0 [] 1 0 ((x5.2.2.2.2.2).map str).length),(1,I (x5.1)),(2,I (x5.2.1)),(3,I (x5.2.2.1)),(8,B (x5.2.2.2.1)),(9,B (x5.2.2.2.2.1))] [⟨0,1,(x5.2.2.2.2.2).map str⟩] 2):=by
 refine fix_indP (Ffbr_la_fin slf_Ffbr data_7 a_8 b_9 limit_10) ?_
 intro self ih x5 y h hr hn
 unfold Ffbr_la_F at h
 refine cq 14 [10,23] [I ((w64 (x5.2.1 - x5.1))),B ((decide ((w64 (x5.2.1 - x5.1)) ≤ 12)))] 98 ?_
 refine sq h (fun h=>?_) (fun h=>?_)
 · refine cq 5 [24,25,26] [.hs 1 0 [] 1 0 ((x5.2.2.2.2.2).map str).length,I (x5.1),I (x5.2.1)] 146 ?_
   obtain ⟨r6,hr6,h⟩:=bS h
   obtain ⟨g7,h⟩:=gG h
   refine oq 162 (.tup []) rfl (e_callV rfl rfl (call_P rfl rfl rfl (avO (hd1 rfl (hd_hs (path:=[]) rfl rfl (ra_n) rfl)) (avS (shP rfl) (avS (shP rfl) (avN)))) (Ffbj_F hr6) (.inr rfl) (bl_c rfl rfl rfl rfl (bl_n)) rfl rfl rfl)) ?_
   try rw [len_eqM (f:=str) (xs:=x5.2.2.2.2.2) (ys:=r6) g7]
   refine aq 1 ?_
   obtain ⟨g8,h⟩:=gG h
   exact s_ret rfl (hr _ (Option.some.inj h).symm _ ⟨_,fin (vs:=[]) rfl (absEN) rfl (ou_1 rfl (oc_hsG (f:=str) (xs:=r6) (by simpa using g8) rfl) (ou_f (ou_f (ou_f (ou_n))))),kl_c (kl_n)⟩)
 · refine aq 1 ?_
   refine cq 6 [29] [B ((x5.2.2.1 == 0))] 130 ?_
   refine sq h (fun h=>?_) (fun h=>?_)
   · refine cq 5 [30,31,32] [.hs 1 0 [] 1 0 ((x5.2.2.2.2.2).map str).length,I (x5.1),I (x5.2.1)] 178 ?_
     obtain ⟨r9,hr9,h⟩:=bS h
     obtain ⟨g10,h⟩:=gG h
     refine oq 194 (.tup []) rfl (e_callV rfl rfl (call_P rfl rfl rfl (avO (hd1 rfl (hd_hs (path:=[]) rfl rfl (ra_n) rfl)) (avS (shP rfl) (avS (shP rfl) (avN)))) (Ffbi_F hr9) (.inr rfl) (bl_c rfl rfl rfl rfl (bl_n)) rfl rfl rfl)) ?_
     try rw [len_eqM (f:=str) (xs:=x5.2.2.2.2.2) (ys:=r9) g10]
     refine aq 1 ?_
     obtain ⟨g11,h⟩:=gG h
     exact s_ret rfl (hr _ (Option.some.inj h).symm _ ⟨_,fin (vs:=[]) rfl (absEN) rfl (ou_1 rfl (oc_hsG (f:=str) (xs:=r9) (by simpa using g11) rfl) (ou_f (ou_f (ou_f (ou_n))))),kl_c (kl_n)⟩)
   · refine aq 1 ?_
     refine cq 6 [35] [B ((!x5.2.2.2.1))] 162 ?_
     obtain ⟨y12,hy12,hy121,hy122⟩:=bL h
     have j12 : ∀ u12,y12=.inr u12→Run (Ffbr_E slf_Ffbr) 1 Q (.code (cR (cR (cR (cR (cL Ffbr_ka))))) :: .blk 1 :: .lp Ffbr_ka :: .blk 0 :: K) (sT 134 [(0,.hs 1 0 [] 1 0 ((u12.2).map str).length),(1,I (x5.1)),(2,I (x5.2.1)),(3,I (u12.1)),(8,B (x5.2.2.2.1)),(9,B (x5.2.2.2.2.1)),(10,I ((w64 (x5.2.1 - x5.1))))] [⟨0,1,(u12.2).map str⟩] 2):=by
       intro u12 hu
       replace h:=hy122 u12 hu
       refine cq 5 [43,44,45] [.hs 1 0 [] 1 0 ((u12.2).map str).length,I (x5.1),I (x5.2.1)] 50 ?_
       obtain ⟨r13,hr13,h⟩:=bS h
       refine oq 66 (.tup [I (r13.1),I (r13.2)]) rfl (e_callV rfl rfl (call_P rfl rfl rfl (avS (sh1 rfl rfl (sh_hsM (f:=str) (g:=str) (xs:=u12.2) rfl rfl (imms_of str_imm))) (avS (shP rfl) (avS (shP rfl) (avN)))) (Ffbh_F hr13) (.inl (rfl)) (bl_n) rfl rfl rfl)) ?_
       refine cq 12 [11,12,50] [I (r13.1),I (r13.2),B ((r13.2 == 2))] 178 ?_
       obtain ⟨y14,hy14,hy141,hy142⟩:=bL h
       have j14 : ∀ u14,y14=.inr u14→Run (Ffbr_E slf_Ffbr) 1 Q (.code (cR (cR (cR (cR (cR (cR (cL Ffbr_ka))))))) :: .blk 1 :: .lp Ffbr_ka :: .blk 0 :: K) (sT 134 [(0,.hs 1 0 [] 1 0 ((u14.2.2).map str).length),(1,I (x5.1)),(2,I (x5.2.1)),(3,I (u12.1)),(8,B (x5.2.2.2.1)),(9,B (x5.2.2.2.2.1)),(10,I ((w64 (x5.2.1 - x5.1)))),(11,I (u14.1)),(12,I (u14.2.1))] [⟨0,1,(u14.2.2).map str⟩] 2):=by
         intro u14 hu
         replace h:=hy142 u14 hu
         refine cq 5 [62] [B (x5.2.2.2.1)] 34 ?_
         obtain ⟨u15,hu15,h⟩:=lJ h
         have j15 : Run (Ffbr_E slf_Ffbr) 1 Q (.code Ffbr_kc :: .code Ffbr_kb :: .blk 1 :: .lp Ffbr_ka :: .blk 0 :: K) (sT 134 [(0,.hs 1 0 [] 1 0 ((u14.2.2).map str).length),(1,I (x5.1)),(2,I (x5.2.1)),(3,I (u12.1)),(8,B (x5.2.2.2.1)),(9,B (x5.2.2.2.2.1)),(10,I ((w64 (x5.2.1 - x5.1)))),(11,I (u14.1)),(68,B (u15))] [⟨0,1,(u14.2.2).map str⟩] 2):=by
           obtain ⟨y16,hy16,hy161,hy162⟩:=bL h
           have j16 : ∀ u16,y16=.inr u16→Run (Ffbr_E slf_Ffbr) 1 Q (.code Ffbr_kb :: .blk 1 :: .lp Ffbr_ka :: .blk 0 :: K) (sT 134 [(0,.hs 1 0 [] 1 0 ((u16).map str).length),(1,I (x5.1)),(2,I (x5.2.1)),(3,I (u12.1)),(8,B (x5.2.2.2.1)),(9,B (x5.2.2.2.2.1)),(10,I ((w64 (x5.2.1 - x5.1)))),(11,I (u14.1))] [⟨0,1,(u16).map str⟩] 2):=by
             intro u16 hu
             replace h:=hy162 u16 hu
             refine aq 2 ?_
             refine s_draw [0,1,3,7,7,23,63,127,7,7,775,1799,4095,8191,16383] rfl (by decide +kernel) ?_
             refine dk 3 [75,74,73] [B ((decide (x5.1 > 0))),B ((decide (x5.1 > 0))),I (x5.1)] ?_
             obtain ⟨y17,hy17,hy171,hy172⟩:=bL h
             have j17 : ∀ u17,y17=.inr u17→Run (Ffbr_E slf_Ffbr) 1 Q (.code (cR (cL Ffbr_kb)) :: .code (cR Ffbr_kb) :: .blk 1 :: .lp Ffbr_ka :: .blk 0 :: K) (sT 134 [(0,.hs 1 0 [] 1 0 ((u16).map str).length),(1,I (x5.1)),(2,I (x5.2.1)),(3,I (u12.1)),(8,B (x5.2.2.2.1)),(9,B (x5.2.2.2.2.1)),(10,I ((w64 (x5.2.1 - x5.1)))),(11,I (u14.1)),(87,B (u17))] [⟨0,1,(u16).map str⟩] 2):=by
               intro u17 hu
               replace h:=hy172 u17 hu
               refine sq h (fun h=>?_) (fun h=>?_)
               · refine cq 6 [88,89,90,91] [.hs 1 0 [] 1 0 ((u16).map str).length,I (x5.1),I (x5.2.1),I (u14.1)] 66 ?_
                 obtain ⟨r18,hr18,h⟩:=bS h
                 obtain ⟨g19,h⟩:=gG h
                 refine oq 82 (I (r18.1)) rfl (e_callV rfl rfl (call_P rfl rfl rfl (avO (hd1 rfl (hd_hs (path:=[]) rfl rfl (ra_n) rfl)) (avS (shP rfl) (avS (shP rfl) (avS (shP rfl) (avN))))) (Ffbp_F hr18) (.inr rfl) (bl_c rfl rfl rfl rfl (bl_n)) rfl rfl rfl)) ?_
                 try rw [len_eqM (f:=str) (xs:=u16) (ys:=r18.2) g19]
                 refine cq 8 [1] [I (r18.1)] 130 ?_
                 refine s_lp ?_
                 exact rf [0,1,2,3,8,9] [1] (ih _ _ h hr hn :)
               · refine aq 1 ?_
                 refine cq 6 [95,96,97,98] [.hs 1 0 [] 1 0 ((u16).map str).length,I (x5.1),I (x5.2.1),I (u14.1)] 66 ?_
                 obtain ⟨r20,hr20,h⟩:=bS h
                 obtain ⟨g21,h⟩:=gG h
                 refine oq 82 (.tup [I (r20.1),B (r20.2.1)]) rfl (e_callV rfl rfl (call_P rfl rfl rfl (avO (hd1 rfl (hd_hs (path:=[]) rfl rfl (ra_n) rfl)) (avS (shP rfl) (avS (shP rfl) (avS (shP rfl) (avN))))) (Ffbq_F hr20) (.inr rfl) (bl_c rfl rfl rfl rfl (bl_n)) rfl rfl rfl)) ?_
                 try rw [len_eqM (f:=str) (xs:=u16) (ys:=r20.2.2) g21]
                 refine cq 34 [9,14,16,17,18,113] [B (r20.2.1),I (r20.1),I ((w64 (r20.1 - x5.1))),I ((w64 (x5.2.1 - r20.1))),I ((w64 ((w64 (x5.2.1 - x5.1)).tdiv 8))),B ((decide ((w64 (r20.1 - x5.1)) < (w64 (x5.2.1 - r20.1)))))] 418 ?_
                 obtain ⟨y22,hy22,hy221,hy222⟩:=bL h
                 have j22 : ∀ u22,y22=.inr u22→Run (Ffbr_E slf_Ffbr) 1 Q (.blk 1 :: .lp Ffbr_ka :: .blk 0 :: K) (sT 134 [(0,.hs 1 0 [] 1 0 ((u22.2.2.2).map str).length),(1,I (u22.1)),(2,I (u22.2.1)),(3,I (u12.1)),(8,B (u22.2.2.1)),(9,B (r20.2.1))] [⟨0,1,(u22.2.2.2).map str⟩] 2):=by
                   intro u22 hu
                   replace h:=hy222 u22 hu
                   refine aq 1 ?_
                   refine s_lp ?_
                   exact rf [0,1,2,3,8,9] [1] (ih _ _ h hr hn :)
                 have r22 : ∀ r',y22=.inl r'→∀ st,Ffbr_Q slf_Ffbr (data_7,a_8,b_9,limit_10) r' st→Q st:=fun r' e st hq=>hr r' (hy221 r' e) st hq
                 replace h:=hy22
                 refine sq h (fun h=>?_) (fun h=>?_)
                 · refine cq 13 [8,117,118,119,120] [B ((decide ((w64 (r20.1 - x5.1)) ≥ (w64 ((w64 (x5.2.1 - x5.1)).tdiv 8))))),.hs 1 0 [] 1 0 ((r20.2.2).map str).length,I (x5.1),I (r20.1),I (u12.1)] 546 ?_
                   obtain ⟨r23,hr23,h⟩:=bS h
                   obtain ⟨g24,h⟩:=gG h
                   refine oq 562 (.tup []) rfl (e_callV rfl rfl (call_P rfl rfl rfl (avO (hd1 rfl (hd_hs (path:=[]) rfl rfl (ra_n) rfl)) (avS (shP rfl) (avS (shP rfl) (avS (shP rfl) (avN))))) (Ffbr_FS slf_Ffbr hr23) (.inr rfl) (bl_c rfl rfl rfl rfl (bl_n)) rfl rfl rfl)) ?_
                   try rw [len_eqM (f:=str) (xs:=r20.2.2) (ys:=r23) g24]
                   refine cq 6 [1] [I ((w64 (r20.1 + 1)))] 610 ?_
                   exact rf [0,1,2,3,8,9] [1] (j22 _ (Option.some.inj h).symm :)
                 · refine cq 14 [8,127,129,130,131] [B ((decide ((w64 (x5.2.1 - r20.1)) ≥ (w64 ((w64 (x5.2.1 - x5.1)).tdiv 8))))),.hs 1 0 [] 1 0 ((r20.2.2).map str).length,I ((w64 (r20.1 + 1))),I (x5.2.1),I (u12.1)] 562 ?_
                   obtain ⟨r25,hr25,h⟩:=bS h
                   obtain ⟨g26,h⟩:=gG h
                   refine oq 578 (.tup []) rfl (e_callV rfl rfl (call_P rfl rfl rfl (avO (hd1 rfl (hd_hs (path:=[]) rfl rfl (ra_n) rfl)) (avS (shP rfl) (avS (shP rfl) (avS (shP rfl) (avN))))) (Ffbr_FS slf_Ffbr hr25) (.inr rfl) (bl_c rfl rfl rfl rfl (bl_n)) rfl rfl rfl)) ?_
                   try rw [len_eqM (f:=str) (xs:=r20.2.2) (ys:=r25) g26]
                   refine cq 5 [2] [I (r20.1)] 610 ?_
                   exact rf [0,1,2,3,8,9] [1] (j22 _ (Option.some.inj h).symm :)
             have r17 : ∀ r',y17=.inl r'→∀ st,Ffbr_Q slf_Ffbr (data_7,a_8,b_9,limit_10) r' st→Q st:=fun r' e st hq=>hr r' (hy171 r' e) st hq
             replace h:=hy17
             refine sp 75 h rfl (fun h=>?_) (fun h=>?_)
             · refine dk 3 [78,77,76] [I ((w64 (x5.1 - 1))),I (x5.1),.hs 1 0 [] 1 0 ((u16).map str).length] ?_
               obtain ⟨e27,he27,h⟩:=bS h
               refine dy [1] [] (.hp 1 0 [] 1 (0 + Int.toNat ((w64 (x5.1 - 1)))) 0) rfl (e_indexAddr rfl rfl rfl (ix_hsM (f:=str) (xs:=u16) rfl rfl rfl he27)) ?_
               refine dy [1] [] (str (e27)) rfl (e_ld rfl (ld_at (path:=[]) rfl rfl rfl (ra_n) (get_map (f:=str) (xs:=u16) he27) rfl rfl rfl)) ?_
               refine dk 2 [82,81] [I (u14.1),.hs 1 0 [] 1 0 ((u16).map str).length] ?_
               obtain ⟨e28,he28,h⟩:=bS h
               refine dy [1] [] (.hp 1 0 [] 1 (0 + Int.toNat (u14.1)) 0) rfl (e_indexAddr rfl rfl rfl (ix_hsM (f:=str) (xs:=u16) rfl rfl rfl he28)) ?_
               refine dy [1] [] (str (e28)) rfl (e_ld rfl (ld_at (path:=[]) rfl rfl rfl (ra_n) (get_map (f:=str) (xs:=u16) he28) rfl rfl rfl)) ?_
               obtain ⟨r29,hr29,h⟩:=bS h
               refine dy [] [] (B (r29)) rfl (e_callV rfl rfl (call_P rfl rfl rfl (avS (shP rfl) (avS (shP rfl) (avN))) (Ffa_F hr29) (.inr rfl) (bl_n) rfl rfl rfl)) ?_ (w_callO rfl rfl rfl rfl (avS (shP rfl) (avS (shP rfl) (avN))) (Ffa_F hr29) (.inr rfl) rfl)
               refine dk 2 [87,86] [B ((!r29)),B ((!r29))] ?_
               refine de 242 rfl rfl ?_
               exact rf [0,1,2,3,8,9,10,11,87] [1] (j17 _ (Option.some.inj h).symm :)
             · refine dk 12 [87,86,85,84,83,82,81,80,79,78,77,76] [B (false),.und,.und,.und,.und,.und,.und,.und,.und,.und,.und,.und] ?_
               refine de 242 rfl rfl ?_
               exact rf [0,1,2,3,8,9,10,11,87] [1] (j17 _ (Option.some.inj h).symm :)
           have r16 : ∀ r',y16=.inl r'→∀ st,Ffbr_Q slf_Ffbr (data_7,a_8,b_9,limit_10) r' st→Q st:=fun r' e st hq=>hr r' (hy161 r' e) st hq
           replace h:=hy16
           refine sq h (fun h=>?_) (fun h=>?_)
           · refine cq 5 [69,70,71] [.hs 1 0 [] 1 0 ((u14.2.2).map str).length,I (x5.1),I (x5.2.1)] 50 ?_
             obtain ⟨r30,hr30,h⟩:=bS h
             obtain ⟨g31,h⟩:=gG h
             refine oq 66 (B (r30.1)) rfl (e_callV rfl rfl (call_P rfl rfl rfl (avO (hd1 rfl (hd_hs (path:=[]) rfl rfl (ra_n) rfl)) (avS (shP rfl) (avS (shP rfl) (avN)))) (Ffbo_F hr30) (.inr rfl) (bl_c rfl rfl rfl rfl (bl_n)) rfl rfl rfl)) ?_
             try rw [len_eqM (f:=str) (xs:=u14.2.2) (ys:=r30.2) g31]
             refine aq 1 ?_
             refine sq h (fun h=>?_) (fun h=>?_)
             · obtain ⟨g32,h⟩:=gG h
               exact s_ret rfl (r16 _ (Option.some.inj h).symm _ ⟨_,fin (vs:=[]) rfl (absEN) rfl (ou_1 rfl (oc_hsG (f:=str) (xs:=r30.2) (by simpa using g32) rfl) (ou_f (ou_f (ou_f (ou_n))))),kl_c (kl_n)⟩)
             · refine aq 1 ?_
               exact rf [0,1,2,3,8,9,10,11] [1] (j16 _ (Option.some.inj h).symm :)
           · refine aq 1 ?_
             exact rf [0,1,2,3,8,9,10,11] [1] (j16 _ (Option.some.inj h).symm :)
         replace h:=hu15
         clear hu15
         refine sp 62 h rfl (fun h=>?_) (fun h=>?_)
         · refine cq 3 [65] [B (x5.2.2.2.2.1)] 82 ?_
           obtain ⟨u33,hu33,h⟩:=lJ h
           have j33 : Run (Ffbr_E slf_Ffbr) 1 Q (.code Ffbr_kc :: .code Ffbr_kb :: .blk 1 :: .lp Ffbr_ka :: .blk 0 :: K) (sT 134 [(0,.hs 1 0 [] 1 0 ((u14.2.2).map str).length),(1,I (x5.1)),(2,I (x5.2.1)),(3,I (u12.1)),(8,B (x5.2.2.2.1)),(9,B (x5.2.2.2.2.1)),(10,I ((w64 (x5.2.1 - x5.1)))),(11,I (u14.1)),(68,B (u33))] [⟨0,1,(u14.2.2).map str⟩] 2):=by
             subst h
             exact rf [0,1,2,3,8,9,10,11,68] [1] (j15 :)
           replace h:=hu33
           clear hu33
           refine sp 65 h rfl (fun h=>?_) (fun h=>?_)
           · refine cq 4 [68] [B ((u14.2.1 == 1))] 130 ?_
             subst h
             exact rf [0,1,2,3,8,9,10,11,68] [1] (j33 :)
           · refine cq 4 [68] [B (false)] 130 ?_
             subst h
             exact rf [0,1,2,3,8,9,10,11,68] [1] (j33 :)
         · refine cq 7 [68] [B (false)] 130 ?_
           subst h
           exact rf [0,1,2,3,8,9,10,11,68] [1] (j15 :)
       have r14 : ∀ r',y14=.inl r'→∀ st,Ffbr_Q slf_Ffbr (data_7,a_8,b_9,limit_10) r' st→Q st:=fun r' e st hq=>hr r' (hy141 r' e) st hq
       replace h:=hy14
       refine sq h (fun h=>?_) (fun h=>?_)
       · refine cq 5 [51,52,53] [.hs 1 0 [] 1 0 ((u12.2).map str).length,I (x5.1),I (x5.2.1)] 226 ?_
         obtain ⟨r34,hr34,h⟩:=bS h
         obtain ⟨g35,h⟩:=gG h
         refine oq 242 (.tup []) rfl (e_callV rfl rfl (call_P rfl rfl rfl (avO (hd1 rfl (hd_hs (path:=[]) rfl rfl (ra_n) rfl)) (avS (shP rfl) (avS (shP rfl) (avN)))) (Ffbs_F hr34) (.inr rfl) (bl_c rfl rfl rfl rfl (bl_n)) rfl rfl rfl)) ?_
         try rw [len_eqM (f:=str) (xs:=u12.2) (ys:=r34) g35]
         refine cq 14 [11,12] [I ((w64 ((w64 (x5.2.1 - 1)) - (w64 (r13.1 - x5.1))))),I (1)] 370 ?_
         exact rf [0,1,2,3,8,9,10,11,12] [1] (j14 _ (Option.some.inj h).symm :)
       · refine aq 1 ?_
         exact rf [0,1,2,3,8,9,10,11,12] [1] (j14 _ (Option.some.inj h).symm :)
     have r12 : ∀ r',y12=.inl r'→∀ st,Ffbr_Q slf_Ffbr (data_7,a_8,b_9,limit_10) r' st→Q st:=fun r' e st hq=>hr r' (hy121 r' e) st hq
     replace h:=hy12
     refine sq h (fun h=>?_) (fun h=>?_)
     · refine cq 5 [36,37,38] [.hs 1 0 [] 1 0 ((x5.2.2.2.2.2).map str).length,I (x5.1),I (x5.2.1)] 210 ?_
       obtain ⟨r36,hr36,h⟩:=bS h
       obtain ⟨g37,h⟩:=gG h
       refine oq 226 (.tup []) rfl (e_callV rfl rfl (call_P rfl rfl rfl (avO (hd1 rfl (hd_hs (path:=[]) rfl rfl (ra_n) rfl)) (avS (shP rfl) (avS (shP rfl) (avN)))) (Ffbg_F hr36) (.inr rfl) (bl_c rfl rfl rfl rfl (bl_n)) rfl rfl rfl)) ?_
       try rw [len_eqM (f:=str) (xs:=x5.2.2.2.2.2) (ys:=r36) g37]
       refine cq 6 [3] [I ((w64 (x5.2.2.1 - 1)))] 274 ?_
       exact rf [0,1,2,3,8,9,10] [1] (j12 _ (Option.some.inj h).symm :)
     · refine aq 1 ?_
       exact rf [0,1,2,3,8,9,10] [1] (j12 _ (Option.some.inj h).symm :)
theorem Ffbr_run (slf_Ffbr : ((List Str) × Int × Int × Int)→Option ((List Str))) (data_7 : List Str) (a_8 : Int) (b_9 : Int) (limit_10 : Int) (r : (List Str)) (h : Ffbr_B slf_Ffbr data_7 a_8 b_9 limit_10=some r) : RunF (Ffbr_E slf_Ffbr) Tryd.f121 [true,false,false,false] 1 (Ffbr_A (data_7,a_8,b_9,limit_10)) (Ffbr_R r):=by
 show Run _ _ (Ffbr_Q slf_Ffbr (data_7,a_8,b_9,limit_10) r) [.code Ffbr_c] _
 refine rin (n:=134) [(0,.hs 1 0 [] 1 0 ((data_7).map str).length),(1,I (a_8)),(2,I (b_9)),(3,I (limit_10))] [(1,some ⟨0,1,(data_7).map str⟩)] 2 (by kernel_rfl) (by kernel_rfl) (by kernel_rfl) rfl ?_
 unfold Ffbr_B at h
 refine cq 9 [8,9] [B (true),B (true)] 34 ?_
 obtain ⟨y38,hy38,hy381,hy382⟩:=bJ h
 refine s_loop rfl ?_
 refine rf [0,1,2,3,8,9] [1] (Ffbr_la_run slf_Ffbr data_7 a_8 b_9 limit_10 rfl (a_8,b_9,limit_10,true,true,data_7) _ hy38 (fun r' e st hq=>by rw [hy381 r' e] at hq; exact hq) fun u38 hu=>?_)
 replace h:=hy382 u38 hu
 cases h
theorem Ffbr_good {G : Go.Ln.Ground} : Good Tryd.prog G 121 Ffbr_ent:=good_rec fun slf_Ffbr g_Ffbr=>good_T (fnOf_good (gl_c Ffbj_good (gl_c Ffbi_good (gl_c Ffbh_good (gl_c Ffbp_good (gl_c Ffbq_good (gl_c g_Ffbr (gl_c Ffa_good (gl_c Ffbo_good (gl_c Ffbs_good (gl_c Ffbg_good (gl_n)))))))))))) agree_mk (Checked.mixed Tryd.checked) Tryd.func121 (n:=4) (m:=1) ⟨rfl,rfl,by decide⟩ (fun _=>⟨rfl,rfl⟩) (fun a r h=>Ffbr_run slf_Ffbr a.1 a.2.1 a.2.2.1 a.2.2.2 r h)
def Ffbf_A : ((List Str))→List V:=oA (usE 1 str)
def Ffbf_R (r : (List Str)) : V × List V:=(.tup [],[.usl 1 ((r).map str)])
noncomputable def Ffbf_ent : Ent:=entT [true] Ffbf_A Ffbf_R fun x=>Ffbf x
theorem Ffbf_F {x_3 : List Str} {r} (h : Ffbf x_3=some r) : (Ffbf_ent).F (Ffbf_A x_3)=some (Ffbf_R r):=entT_F (oA_inj (usl_inj str_inj)) h
noncomputable def Ffbf_c : Code:=bodyOf Tryd.f89
noncomputable def Ffbf_E : Env:=mkE Tryd.prog [(122,Ffy_ent),(121,Ffbr_ent)]
def Ffbf_Q (x : (List Str)) (r : (List Str)) : St→Prop:=QF Ffbf_E Tryd.f89 [true] (Ffbf_A x) (Ffbf_R r)
theorem Ffbf_run (x_3 : List Str) (r : (List Str)) (h : Ffbf x_3=some r) : RunF Ffbf_E Tryd.f89 [true] 1 (Ffbf_A x_3) (Ffbf_R r):=by
 show Run _ _ (Ffbf_Q x_3 r) [.code Ffbf_c] _
 refine rin (n:=11) [(0,.hs 1 0 [] 1 0 ((x_3).map str).length)] [(1,some ⟨0,1,(x_3).map str⟩)] 2 (by kernel_rfl) (by kernel_rfl) (by kernel_rfl) rfl ?_
 unfold Ffbf at h
 refine cq 3 [3] [.hs 1 0 [] 1 0 ((x_3).map str).length] 18 ?_
 refine oq 34 (I ((len x_3))) rfl (e_len rfl rfl rfl (l_hsM (f:=str) (xs:=x_3) rfl rfl)) ?_
 refine cq 7 [5,6,8] [.hs 1 0 [] 1 0 ((x_3).map str).length,I ((len x_3)),.int .u64 ((IntKind.u64.wrap (len x_3)))] 114 ?_
 obtain ⟨r2,hr2,h⟩:=bS h
 refine oq 130 (I (r2)) rfl (e_callV rfl rfl (call_P rfl rfl rfl (avS (shP rfl) (avN)) (Ffy_F hr2) (.inr rfl) (bl_n) rfl rfl rfl)) ?_
 obtain ⟨r3,hr3,h⟩:=bS h
 obtain ⟨g4,h⟩:=gG h
 refine oq 146 (.tup []) rfl (e_callV rfl rfl (call_P rfl rfl rfl (avO (hd1 rfl (hd_hs (path:=[]) rfl rfl (ra_n) rfl)) (avS (shP rfl) (avS (shP rfl) (avS (shP rfl) (avN))))) (Ffbr_F hr3) (.inr rfl) (bl_c rfl rfl rfl rfl (bl_n)) rfl rfl rfl)) ?_
 try rw [len_eqM (f:=str) (xs:=x_3) (ys:=r3) g4]
 refine aq 1 ?_
 obtain ⟨g5,h⟩:=gG h
 obtain rfl:=Option.some.inj h
 exact s_end ⟨_,fin (vs:=[]) rfl (absEN) rfl (ou_1 rfl (oc_hsG (f:=str) (xs:=r3) (by simpa using g5) rfl) (ou_n)),kl_c (kl_n)⟩
theorem Ffbf_good {G : Go.Ln.Ground} : Good Tryd.prog G 89 Ffbf_ent:=good_T (fnOf_good (gl_c Ffy_good (gl_c Ffbr_good (gl_n)))) agree_mk (Checked.mixed Tryd.checked) Tryd.func89 (n:=1) (m:=1) ⟨rfl,rfl,by decide⟩ (fun _=>⟨rfl,rfl⟩) (fun a r h=>Ffbf_run a r h)
def Ffbc_A : ((List Str))→List V:=oA (usE 1 str)
def Ffbc_R (r : (List Str)) : V × List V:=(.usl 1 ((r).map str),[.dead])
noncomputable def Ffbc_ent : Ent:=entT [true] Ffbc_A Ffbc_R fun x=>Ffbc x
theorem Ffbc_F {s_2 : List Str} {r} (h : Ffbc s_2=some r) : (Ffbc_ent).F (Ffbc_A s_2)=some (Ffbc_R r):=entT_F (oA_inj (usl_inj str_inj)) h
noncomputable def Ffbc_c : Code:=bodyOf Tryd.f90
noncomputable abbrev Ffbc_ka : Code:=cL (cL (cR (cL (cR (cL (cR (cL (cL (cR (cL (cL (cR (cL (cR (cR Ffbc_c)))))))))))))))
noncomputable def Ffbc_E : Env:=mkE Tryd.prog []
def Ffbc_Q (x : (List Str)) (r : (List Str)) : St→Prop:=QF Ffbc_E Tryd.f90 [true] (Ffbc_A x) (Ffbc_R r)
theorem Ffbc_lb_run (s_2 : List Str) (x2 : Int) {Q : St→Prop} {K : List It} (hK : noD K=true) : ∀ (x6 : Int × Int × (List Str)) (y : ((List Str)) ⊕ (Int × (List Str))),Ffbc_lb s_2 x2 x6=some y→(∀ r',y=.inl r'→∀ st,Ffbc_Q s_2 r' st→Q st)→(∀ u : Int × (List Str),y=.inr u→Run Ffbc_E 1 Q K (sO 61 [(0,.hs 2 0 [] 1 0 ((u.2).map str).length),(3,I (u.1))] [none,some ⟨0,1,(u.2).map str⟩] 3))→Run Ffbc_E 1 Q (.code Ffbc_ka :: .lp Ffbc_ka :: .blk 2 :: K) (sO 61 [(0,.hs 2 0 [] 1 0 ((x6.2.2).map str).length),(3,I (x6.1)),(4,.hs 2 0 [] 1 (0 + Int.toNat (x2)) (Int.toNat (len s_2) - Int.toNat (x2))),(5,I (x6.2.1))] [none,some ⟨0,1,(x6.2.2).map str⟩] 3):=by
 refine fix_indP (Ffbc_lb_fin s_2 x2) ?_
 intro self ih x6 y h hr hn
 unfold Ffbc_lb_F at h
 refine cq 8 [32] [B ((decide (x6.2.1 < (((Int.toNat (len s_2) - Int.toNat (x2)) : Nat) : Int))))] 67 ?_
 refine sq h (fun h=>?_) (fun h=>?_)
 · refine aq 1 ?_
   refine aq 3 ?_
   refine s_draw [0,0,3,7,0,0,32,112,240,511] rfl (by decide +kernel) ?_
   refine dk 2 [36,35] [I (x6.2.1),.hs 2 0 [] 1 (0 + Int.toNat (x2)) (Int.toNat (len s_2) - Int.toNat (x2))] ?_
   obtain ⟨e7,he7,h⟩:=bS h
   refine dq [2] [] (.hp 2 0 [] 1 ((0 + Int.toNat (x2)) + Int.toNat (x6.2.1)) 0) rfl (e_indexAddr rfl rfl rfl (ix_pt (xs:=x6.2.2) rfl rfl he7)) ?_
   refine dq [2] [] (str (e7)) rfl (e_ld rfl (ld_at (path:=[]) rfl rfl rfl (ra_n) (get_pt (f:=str) (xs:=x6.2.2) he7) rfl rfl rfl)) ?_
   refine dk 3 [41,40,39] [I ((w64 (x6.2.1 - 1))),I (x6.2.1),.hs 2 0 [] 1 (0 + Int.toNat (x2)) (Int.toNat (len s_2) - Int.toNat (x2))] ?_
   obtain ⟨e8,he8,h⟩:=bS h
   refine dq [2] [] (.hp 2 0 [] 1 ((0 + Int.toNat (x2)) + Int.toNat ((w64 (x6.2.1 - 1)))) 0) rfl (e_indexAddr rfl rfl rfl (ix_pt (xs:=x6.2.2) rfl rfl he8)) ?_
   refine dq [2] [] (str (e8)) rfl (e_ld rfl (ld_at (path:=[]) rfl rfl rfl (ra_n) (get_pt (f:=str) (xs:=x6.2.2) he8) rfl rfl rfl)) ?_
   refine dk 1 [44] [B ((!(e7 == e8)))] ?_
   refine de 227 rfl rfl ?_
   obtain ⟨y9,hy9,hy91,hy92⟩:=bL h
   have j9 : ∀ u9,y9=.inr u9→Run Ffbc_E 1 Q (.blk 3 :: .code (cR (cR Ffbc_ka)) :: .lp Ffbc_ka :: .blk 2 :: K) (sO 61 [(0,.hs 2 0 [] 1 0 ((u9.2).map str).length),(3,I (u9.1)),(4,.hs 2 0 [] 1 (0 + Int.toNat (x2)) (Int.toNat (len s_2) - Int.toNat (x2))),(5,I (x6.2.1))] [none,some ⟨0,1,(u9.2).map str⟩] 3):=by
     intro u9 hu
     replace h:=hy92 u9 hu
     refine cq 6 [5] [I ((w64 (x6.2.1 + 1)))] 51 ?_
     refine s_lp ?_
     exact rg [0,3,4,5] [52,2] (ih _ _ h hr hn :)
   have r9 : ∀ r',y9=.inl r'→∀ st,Ffbc_Q s_2 r' st→Q st:=fun r' e st hq=>hr r' (hy91 r' e) st hq
   replace h:=hy9
   refine sq h (fun h=>?_) (fun h=>?_)
   · refine cq 6 [45,46,47,48] [.hs 2 0 [] 1 0 ((x6.2.2).map str).length,I (x6.1),.hs 2 0 [] 1 (0 + Int.toNat (x2)) (Int.toNat (len s_2) - Int.toNat (x2)),I (x6.2.1)] 291 ?_
     obtain ⟨e10,he10,h⟩:=bS h
     refine oq 307 (.hp 2 0 [] 1 ((0 + Int.toNat (x2)) + Int.toNat (x6.2.1)) 0) rfl (e_indexAddr rfl rfl rfl (ix_pt (xs:=x6.2.2) rfl rfl he10)) ?_
     refine oq 323 (str (e10)) rfl (e_ld rfl (ld_at (path:=[]) rfl rfl rfl (ra_n) (get_pt (f:=str) (xs:=x6.2.2) he10) rfl rfl rfl)) ?_
     obtain ⟨e11,he11,h⟩:=bS h
     refine oq 339 (.hp 2 0 [] 1 (0 + Int.toNat (x6.1)) 0) rfl (e_indexAddr rfl rfl rfl (ix_hsM (f:=str) (xs:=x6.2.2) rfl rfl rfl he11)) ?_
     refine o0 355 rfl rfl (e_st rfl rfl (st_at (path:=[]) (pl:=true) (e':=str (e10)) (es2':=((setI x6.2.2 x6.1 e10)).map str) rfl (absorb_plain rfl) rfl rfl rfl (ra_n) (get_map (f:=str) (xs:=x6.2.2) he11) rfl rfl rfl (set_map (f:=str) (xs:=x6.2.2) (y:=e10)) (sr_n) 0 rfl)) ?_
     try rw [← len_setM (f:=str) (xs:=x6.2.2) (i:=x6.1) (z:=e10)]
     refine cq 6 [3] [I ((w64 (x6.1 + 1)))] 403 ?_
     exact rg [0,3,4,5] [404,2] (j9 _ (Option.some.inj h).symm :)
   · refine aq 1 ?_
     exact rg [0,3,4,5] [228,2] (j9 _ (Option.some.inj h).symm :)
 · refine aq 1 ?_
   exact rg [0,3] [68,2] (hn _ (Option.some.inj h).symm :) (hk:=hK)
theorem Ffbc_la_run (s_2 : List Str)  {Q : St→Prop} {K : List It} (hK : noD K=true) : ∀ (x2 : Int) (y : ((List Str)) ⊕ ((List Str))),Ffbc_la s_2 x2=some y→(∀ r',y=.inl r'→∀ st,Ffbc_Q s_2 r' st→Q st)→(∀ u : (List Str),y=.inr u→Run Ffbc_E 1 Q K (sO 61 [(0,.hs 2 0 [] 1 0 ((u).map str).length)] [none,some ⟨0,1,(u).map str⟩] 3))→Run Ffbc_E 1 Q (.code (cL (cL (cR (cL (cR (cR Ffbc_c)))))) :: .lp (cL (cL (cR (cL (cR (cR Ffbc_c)))))) :: .blk 0 :: K) (sO 61 [(0,.hs 2 0 [] 1 0 ((s_2).map str).length),(3,I (x2))] [none,some ⟨0,1,(s_2).map str⟩] 3):=by
 refine fix_indP (Ffbc_la_fin s_2) ?_
 intro self ih x2 y h hr hn
 unfold Ffbc_la_F at h
 refine cq 5 [10,11] [I (x2),.hs 2 0 [] 1 0 ((s_2).map str).length] 35 ?_
 refine oq 51 (I ((len s_2))) rfl (e_len rfl rfl rfl (l_hsM (f:=str) (xs:=s_2) rfl rfl)) ?_
 refine cq 2 [13] [B ((decide (x2 < (len s_2))))] 67 ?_
 refine sq h (fun h=>?_) (fun h=>?_)
 · refine aq 1 ?_
   refine aq 3 ?_
   refine s_draw [0,0,3,7,0,0,32,112,240,511] rfl (by decide +kernel) ?_
   refine dk 2 [17,16] [I (x2),.hs 2 0 [] 1 0 ((s_2).map str).length] ?_
   obtain ⟨e3,he3,h⟩:=bS h
   refine dq [2] [] (.hp 2 0 [] 1 (0 + Int.toNat (x2)) 0) rfl (e_indexAddr rfl rfl rfl (ix_hsM (f:=str) (xs:=s_2) rfl rfl rfl he3)) ?_
   refine dq [2] [] (str (e3)) rfl (e_ld rfl (ld_at (path:=[]) rfl rfl rfl (ra_n) (get_map (f:=str) (xs:=s_2) he3) rfl rfl rfl)) ?_
   refine dk 3 [22,21,20] [I ((w64 (x2 - 1))),I (x2),.hs 2 0 [] 1 0 ((s_2).map str).length] ?_
   obtain ⟨e4,he4,h⟩:=bS h
   refine dq [2] [] (.hp 2 0 [] 1 (0 + Int.toNat ((w64 (x2 - 1)))) 0) rfl (e_indexAddr rfl rfl rfl (ix_hsM (f:=str) (xs:=s_2) rfl rfl rfl he4)) ?_
   refine dq [2] [] (str (e4)) rfl (e_ld rfl (ld_at (path:=[]) rfl rfl rfl (ra_n) (get_map (f:=str) (xs:=s_2) he4) rfl rfl rfl)) ?_
   refine dk 1 [25] [B ((e3 == e4))] ?_
   refine de 227 rfl rfl ?_
   refine sq h (fun h=>?_) (fun h=>?_)
   · refine cq 4 [26,27] [.hs 2 0 [] 1 0 ((s_2).map str).length,I (x2)] 259 ?_
     obtain ⟨s5,hs5,h⟩:=bS h
     refine oq 275 (.hs 2 0 [] 1 (0 + Int.toNat (x2)) (Int.toNat (len s_2) - Int.toNat (x2))) rfl (e_slice rfl rfl rfl rfl (sl_hsM (f:=str) (xs:=s_2) rfl rfl rfl rfl (bd_n rfl) hs5)) ?_
     refine cq 8 [4,5] [.hs 2 0 [] 1 (0 + Int.toNat (x2)) (Int.toNat (len s_2) - Int.toNat (x2)),I (1)] 307 ?_
     obtain ⟨y15,hy15,hy151,hy152⟩:=bL h
     refine s_loop rfl ?_
     refine rg [0,3,4,5] [308,2] (Ffbc_lb_run s_2 x2 rfl (x2,1,s_2) _ hy15 (fun r' e st hq=>hr r' (hy151 r' e) st hq) fun u15 hu=>?_)
     replace h:=hy152 u15 hu
     refine cq 4 [54,55] [.hs 2 0 [] 1 0 ((u15.2).map str).length,I (u15.1)] 35 ?_
     obtain ⟨s16,hs16,h⟩:=bS h
     refine oq 51 (.hs 2 0 [] 1 (0 + Int.toNat (u15.1)) (Int.toNat (len u15.2) - Int.toNat (u15.1))) rfl (e_slice rfl rfl rfl rfl (sl_hsM (f:=str) (xs:=u15.2) rfl rfl rfl rfl (bd_n rfl) hs16)) ?_
     obtain ⟨k17,hk17,h⟩:=bS h
     refine o0 67 rfl rfl (e_clear rfl rfl (cl_pt (f:=str) (xs:=u15.2) (z0:=[]) rfl rfl rfl rfl (by decide) str_flat hk17)) ?_
     try rw [show (u15.2.map str).length=(k17.map str).length from clr_len hk17]
     refine cq 5 [57,58] [.hs 2 0 [] 1 0 ((k17).map str).length,I (u15.1)] 99 ?_
     obtain ⟨s18,hs18,h⟩:=bS h
     refine oq 115 (.hs 2 0 [] 1 (0 + Int.toNat (0)) (Int.toNat (u15.1) - Int.toNat (0))) rfl (e_slice rfl rfl rfl rfl (sl_hsM (f:=str) (xs:=k17) rfl rfl rfl rfl rfl hs18)) ?_
     refine cq 2 [2] [.hs 2 0 [] 1 (0 + Int.toNat (0)) (Int.toNat (u15.1) - Int.toNat (0))] 131 ?_
     obtain ⟨p19,hp19,h⟩:=bS h
     exact s_ret rfl (hr _ (Option.some.inj h).symm _ ⟨_,fin (vs:=[.hs 2 0 [] 1 (0 + Int.toNat (0)) (Int.toNat (u15.1) - Int.toNat (0))]) rfl (absE (abs1 rfl (abs_pt (path:=[]) (f:=str) (xs:=k17) rfl rfl (ra_n) hp19 rfl (to_n))) (absEN)) rfl (ou_1 rfl (oc_no rfl) (ou_n)),kl_d (kl_n)⟩)
   · refine aq 1 ?_
     refine cq 6 [3] [I ((w64 (x2 + 1)))] 275 ?_
     refine s_lp ?_
     exact rg [0,3] [276,2] (ih _ _ h hr hn :)
 · refine aq 1 ?_
   exact rg [0] [68,2] (hn _ (Option.some.inj h).symm :) (hk:=hK)
theorem Ffbc_run (s_2 : List Str) (r : (List Str)) (h : Ffbc s_2=some r) : RunF Ffbc_E Tryd.f90 [true] 1 (Ffbc_A s_2) (Ffbc_R r):=by
 show Run _ _ (Ffbc_Q s_2 r) [.code Ffbc_c] _
 refine rin (n:=61) [(0,.hs 1 0 [] 1 0 ((s_2).map str).length)] [(1,some ⟨0,1,(s_2).map str⟩)] 2 (by kernel_rfl) (by kernel_rfl) (by kernel_rfl) rfl ?_
 unfold Ffbc at h
 refine cq 8 [6] [.hs 1 0 [] 1 0 ((s_2).map str).length] 34 ?_
 refine oq 50 (I ((len s_2))) rfl (e_len rfl rfl rfl (l_hsM (f:=str) (xs:=s_2) rfl rfl)) ?_
 refine cq 2 [8] [B ((decide ((len s_2) < 2)))] 66 ?_
 refine sq h (fun h=>?_) (fun h=>?_)
 · refine cq 5 [2] [.hs 1 0 [] 1 0 ((s_2).map str).length] 98 ?_
   obtain rfl:=Option.some.inj h
   exact s_ret rfl ⟨_,fin (vs:=[.hs 1 0 [] 1 0 ((s_2).map str).length]) rfl (absE (abs1 rfl (abs_hs rfl rfl)) (absEN)) rfl (ou_1 rfl (oc_no rfl) (ou_n)),kl_d (kl_n)⟩
 · refine aq 1 ?_
   refine cq 6 [3] [I (1)] 82 ?_
   obtain ⟨y20,hy20,hy201,hy202⟩:=bJ h
   refine s_loop rfl ?_
   refine rg [0,3] [83,1] (Ffbc_la_run s_2 rfl 1 _ hy20 (fun r' e st hq=>by rw [hy201 r' e] at hq; exact hq) fun u20 hu=>?_)
   replace h:=hy202 u20 hu
   refine cq 5 [2] [.hs 2 0 [] 1 0 ((u20).map str).length] 35 ?_
   obtain rfl:=Option.some.inj h
   exact s_ret rfl ⟨_,fin (vs:=[.hs 2 0 [] 1 0 ((u20).map str).length]) rfl (absE (abs1 rfl (abs_hs rfl rfl)) (absEN)) rfl (ou_1 rfl (oc_no rfl) (ou_n)),kl_d (kl_n)⟩
theorem Ffbc_good {G : Go.Ln.Ground} : Good Tryd.prog G 90 Ffbc_ent:=good_T (fnOf_good (gl_n)) agree_mk (Checked.mixed Tryd.checked) Tryd.func90 (n:=1) (m:=1) ⟨rfl,rfl,by decide⟩ (fun _=>⟨rfl,rfl⟩) (fun a r h=>Ffbc_run a r h)
def Ffk_A : ((List Str))→List V:=oA (usE 1 str)
def Ffk_R (r : (List Str)) : V × List V:=(.usl 1 ((r).map str),[.dead])
noncomputable def Ffk_ent : Ent:=entT [true] Ffk_A Ffk_R fun x=>Ffk x
theorem Ffk_F {list_5 : List Str} {r} (h : Ffk list_5=some r) : (Ffk_ent).F (Ffk_A list_5)=some (Ffk_R r):=entT_F (oA_inj (usl_inj str_inj)) h
noncomputable def Ffk_c : Code:=bodyOf Tryd.f47
noncomputable def Ffk_E : Env:=mkE Tryd.prog [(89,Ffbf_ent),(90,Ffbc_ent)]
def Ffk_Q (x : (List Str)) (r : (List Str)) : St→Prop:=QF Ffk_E Tryd.f47 [true] (Ffk_A x) (Ffk_R r)
theorem Ffk_run (list_5 : List Str) (r : (List Str)) (h : Ffk list_5=some r) : RunF Ffk_E Tryd.f47 [true] 1 (Ffk_A list_5) (Ffk_R r):=by
 show Run _ _ (Ffk_Q list_5 r) [.code Ffk_c] _
 refine rin (n:=7) [(0,.hs 1 0 [] 1 0 ((list_5).map str).length)] [(1,some ⟨0,1,(list_5).map str⟩)] 2 (by kernel_rfl) (by kernel_rfl) (by kernel_rfl) rfl ?_
 unfold Ffk at h
 refine cq 7 [3] [.hs 1 0 [] 1 0 ((list_5).map str).length] 34 ?_
 obtain ⟨r2,hr2,h⟩:=bS h
 obtain ⟨g3,h⟩:=gG h
 refine oq 50 (.tup []) rfl (e_callV rfl rfl (call_P rfl rfl rfl (avO (hd1 rfl (hd_hs (path:=[]) rfl rfl (ra_n) rfl)) (avN)) (Ffbf_F hr2) (.inr rfl) (bl_c rfl rfl rfl rfl (bl_n)) rfl rfl rfl)) ?_
 try rw [len_eqM (f:=str) (xs:=list_5) (ys:=r2) g3]
 refine cq 4 [5] [.hs 1 0 [] 1 0 ((r2).map str).length] 66 ?_
 obtain ⟨r4,hr4,h⟩:=bS h
 refine oq 82 (.hs 66 0 [] 1 0 ((r4).map str).length) rfl (e_callV rfl rfl (call_P rfl rfl rfl (avO (hd1 rfl (hd_hs (path:=[]) rfl rfl (ra_n) rfl)) (avN)) (Ffbc_F hr4) (.inr rfl) (bl_c rfl rfl rfl bk_dead (bl_n)) rfl rfl rfl)) ?_
 refine cq 2 [2] [.hs 66 0 [] 1 0 ((r4).map str).length] 98 ?_
 obtain rfl:=Option.some.inj h
 exact s_ret rfl ⟨_,fin (vs:=[.hs 66 0 [] 1 0 ((r4).map str).length]) rfl (absE (abs1 rfl (abs_hs rfl rfl)) (absEN)) rfl (ou_1 rfl (oc_no rfl) (ou_n)),kl_d (kl_n)⟩
theorem Ffk_good {G : Go.Ln.Ground} : Good Tryd.prog G 47 Ffk_ent:=good_T (fnOf_good (gl_c Ffbf_good (gl_c Ffbc_good (gl_n)))) agree_mk (Checked.mixed Tryd.checked) Tryd.func47 (n:=1) (m:=1) ⟨rfl,rfl,by decide⟩ (fun _=>⟨rfl,rfl⟩) (fun a r h=>Ffk_run a r h)
def Fff_A : (Condition × (List Int))→List V:=cA encI_Condition1 (oA (usE 1 I))
def Fff_R (r : (List Int)) : V × List V:=(.usl 1 ((r).map I),[.dead])
noncomputable def Fff_entS (slf_Fff : (Condition × (List Int))→Option ((List Int))) : Ent:=entT [false,true] Fff_A Fff_R slf_Fff
theorem Fff_FS (slf_Fff : (Condition × (List Int))→Option ((List Int))) {x} {r} (h : slf_Fff x=some r) : (Fff_entS slf_Fff).F (Fff_A x)=some (Fff_R r):=entT_F (cA_inj encI_Condition1_inj (oA_inj (usl_inj I_inj))) h
noncomputable def Fff_ent : Ent:=Fff_entS (fixO Fff_G)
theorem Fff_F {c_3 : Condition} {list_4 : List Int} {r} (h : Fff c_3 list_4=some r) : Fff_ent.F (Fff_A (c_3,list_4))=some (Fff_R r):=Fff_FS (fixO Fff_G) h
noncomputable def Fff_c : Code:=bodyOf Tryd.f49
noncomputable def Fff_E (slf_Fff : (Condition × (List Int))→Option ((List Int))) : Env:=mkE Tryd.prog [(49,(Fff_entS slf_Fff))]
def Fff_Q (slf_Fff : (Condition × (List Int))→Option ((List Int))) (x : Condition × (List Int)) (r : (List Int)) : St→Prop:=QF (Fff_E slf_Fff) Tryd.f49 [false,true] (Fff_A x) (Fff_R r)
theorem Fff_la_run (slf_Fff : (Condition × (List Int))→Option ((List Int))) (c_3 : Condition) (list_4 : List Int)  {Q : St→Prop} {K : List It} (hK : noD K=true) : ∀ (x4 : Int × (List Int)) (y : ((List Int)) ⊕ ((List Int))),Fff_la slf_Fff c_3 list_4 x4=some y→(∀ r',y=.inl r'→∀ st,Fff_Q slf_Fff (c_3,list_4) r' st→Q st)→(∀ u : (List Int),y=.inr u→Run (Fff_E slf_Fff) 1 Q K (sO 27 [(1,.hs 2 0 [] 1 0 ((u).map I).length)] [none,some ⟨0,1,(u).map I⟩] 3))→Run (Fff_E slf_Fff) 1 Q (.code (cL (cL (cR (cL (cR (cR Fff_c)))))) :: .lp (cL (cL (cR (cL (cR (cR Fff_c)))))) :: .blk 0 :: K) (sO 27 [(1,.hs 2 0 [] 1 0 ((x4.2).map I).length),(16,.isl false ((c_3.Parts).map encI_Condition)),(17,I ((len c_3.Parts))),(18,I (x4.1))] [none,some ⟨0,1,(x4.2).map I⟩] 3):=by
 refine fix_indP (Fff_la_fin slf_Fff c_3 list_4) ?_
 intro self ih x4 y h hr hn
 unfold Fff_la_F at h
 refine cq 5 [19] [B ((decide (x4.1 < (len c_3.Parts))))] 19 ?_
 refine sq h (fun h=>?_) (fun h=>?_)
 · refine aq 1 ?_
   refine aq 4 ?_
   obtain ⟨e5,he5,h⟩:=bS h
   refine oq 35 (.iptr (.agg [I (e5.Op),str (e5.Name),I (e5.Day),.isl false ((e5.Parts).map encI_Condition)]) 0) rfl (e_indexAddr rfl rfl rfl (ix_islE rfl rfl (encI_Condition_eq e5) rfl he5)) ?_
   refine ck 2 [6,21] [] [51] [] [.hp 51 0 [] 4 0 0,.agg [I (e5.Op),str (e5.Name),I (e5.Day),.isl false ((e5.Parts).map encI_Condition)]] [some ⟨0,4,[.agg [I (0),str ([]),I (0),.isl true []]]⟩] 67 (by kernel_rfl) ?_
   refine run_row 51 [.agg [I (0),str ([]),I (0),.usl 4 (([]).map encO_Condition)]] rfl rfl (cvs_c (cv_agg (cvs_c (.refl _) (cvs_c (.refl _) (cvs_c (.refl _) (cvs_c (.nil _) (cvs_n)))))) cvs_n) ?_
   refine ck 5 [22,23] [] [51] [] [.agg [I (e5.Op),str (e5.Name),I (e5.Day),.isl false ((e5.Parts).map encI_Condition)],.hs 2 0 [] 1 0 ((x4.2).map I).length] [some ⟨2,4,[.agg [I (e5.Op),str (e5.Name),I (e5.Day),.isl false ((e5.Parts).map encI_Condition)]]⟩] 115 (by kernel_rfl) ?_
   obtain ⟨r6,hr6,h⟩:=bS h
   refine oq 131 (.hs 115 0 [] 1 0 ((r6).map I).length) rfl (e_callV rfl rfl (call_P rfl rfl rfl (avS (shP rfl) (avO (hd1 rfl (hd_hs (path:=[]) rfl rfl (ra_n) rfl)) (avN))) (Fff_FS slf_Fff hr6) (.inr rfl) (bl_c rfl rfl rfl bk_dead (bl_n)) rfl rfl rfl)) ?_
   refine cq 7 [1,18] [.hs 115 0 [] 1 0 ((r6).map I).length,I ((w64 (x4.1 + 1)))] 179 ?_
   refine s_lp ?_
   exact rg [1,16,17,18] [180,115] (ih _ _ h hr hn :)
 · refine aq 1 ?_
   exact rg [1] [20,2] (hn _ (Option.some.inj h).symm :) (hk:=hK)
theorem Fff_run (slf_Fff : (Condition × (List Int))→Option ((List Int))) (c_3 : Condition) (list_4 : List Int) (r : (List Int)) (h : Fff_B slf_Fff c_3 list_4=some r) : RunF (Fff_E slf_Fff) Tryd.f49 [false,true] 1 (Fff_A (c_3,list_4)) (Fff_R r):=by
 show Run _ _ (Fff_Q slf_Fff (c_3,list_4) r) [.code Fff_c] _
 refine rin (n:=27) [(0,.agg [I (c_3.Op),str (c_3.Name),I (c_3.Day),.isl false ((c_3.Parts).map encI_Condition)]),(1,.hs 1 0 [] 1 0 ((list_4).map I).length)] [(1,some ⟨0,1,(list_4).map I⟩)] 2 (by kernel_rfl) (by kernel_rfl) (by kernel_rfl) rfl ?_
 unfold Fff_B at h
 refine ck 12 [2,9] [] [2] [] [.hp 2 0 [] 4 0 0,B ((c_3.Op == 3))] [some ⟨0,4,[.agg [I (c_3.Op),str (c_3.Name),I (c_3.Day),.isl false ((c_3.Parts).map encI_Condition)]]⟩] 82 (by kernel_rfl) ?_
 obtain ⟨y3,hy3,hy31,hy32⟩:=bJ h
 have j3 : ∀ u3,y3=.inr u3→Run (Fff_E slf_Fff) 1 (Fff_Q slf_Fff (c_3,list_4) r) (.code (cR (cR Fff_c)) :: []) (sO 27 [(1,.hs 2 0 [] 1 0 ((u3).map I).length),(2,.hp 3 0 [] 4 0 0)] [none,some ⟨0,1,(u3).map I⟩,some ⟨0,4,[.agg [I (c_3.Op),str (c_3.Name),I (c_3.Day),.isl false ((c_3.Parts).map encI_Condition)]]⟩] 4):=by
   intro u3 hu
   replace h:=hy32 u3 hu
   refine cq 5 [16] [.isl false ((c_3.Parts).map encI_Condition)] 36 ?_
   refine oq 52 (I ((len c_3.Parts))) rfl (e_len rfl rfl rfl (l_isl rfl)) ?_
   refine cq 3 [18] [I (0)] 68 ?_
   obtain ⟨y7,hy7,hy71,hy72⟩:=bJ h
   refine s_loop rfl ?_
   refine rg [1,16,17,18] [69,2] (Fff_la_run slf_Fff c_3 list_4 rfl (0,u3) _ hy7 (fun r' e st hq=>by rw [hy71 r' e] at hq; exact hq) fun u7 hu=>?_)
   replace h:=hy72 u7 hu
   refine cq 5 [4] [.hs 2 0 [] 1 0 ((u7).map I).length] 35 ?_
   obtain rfl:=Option.some.inj h
   exact s_ret rfl ⟨_,fin (vs:=[.hs 2 0 [] 1 0 ((u7).map I).length]) rfl (absE (abs1 rfl (abs_hs rfl rfl)) (absEN)) rfl (ou_f (ou_1 rfl (oc_no rfl) (ou_n))),kl_d (kl_n)⟩
 have r3 : ∀ r',y3=.inl r'→∀ st,Fff_Q slf_Fff (c_3,list_4) r' st→(Fff_Q slf_Fff (c_3,list_4) r) st:=fun r' e st hq=>by rw [hy31 r' e] at hq; exact hq
 replace h:=hy3
 refine sq h (fun h=>?_) (fun h=>?_)
 · refine cq 4 [10,12] [.hs 1 0 [] 1 0 ((list_4).map I).length,I (c_3.Day)] 130 ?_
   refine oq 146 (.hs 130 0 [] 1 0 1) rfl (e_buildSlice rfl (bs_mk (f:=I) (xs:=[]) (z:=I (0)) (es:=[I (c_3.Day)]) (ws:=[I (c_3.Day)]) rfl rfl rfl (by decide) rfl (abs_each_plain rfl) rfl)) ?_
   obtain ⟨a8,ha8,h⟩:=bS h
   refine oq 162 (.hs 146 0 [] 1 0 ((a8).map I).length) rfl (e_append rfl rfl rfl rfl rfl (ap_hsM (path:=[]) (f:=I) (xs:=list_4) (ys:=[c_3.Day]) rfl rfl (take_hs rfl rfl rfl) rfl rfl rfl (ra_n) rfl (by decide) I_cells ha8 rfl (to_n))) ?_
   refine cq 2 [1] [.hs 146 0 [] 1 0 ((a8).map I).length] 178 ?_
   exact rg [1,2] [179,146,2] (j3 _ (Option.some.inj h).symm :)
 · refine aq 1 ?_
   exact rg [1,2] [83,1,2] (j3 _ (Option.some.inj h).symm :)
theorem Fff_good {G : Go.Ln.Ground} : Good Tryd.prog G 49 Fff_ent:=good_rec fun slf_Fff g_Fff=>good_T (fnOf_good (gl_c g_Fff (gl_n))) agree_mk (Checked.mixed Tryd.checked) Tryd.func49 (n:=2) (m:=1) ⟨rfl,rfl,by decide⟩ (fun _=>⟨rfl,rfl⟩) (fun a r h=>Fff_run slf_Fff a.1 a.2 r h)
def Ffi_A : (Condition × (List Str) × Int)→List V:=cA encI_Condition1 (cA (slE str) (oA I))
def Ffi_R (r : Bool) : V × List V:=(B (r),[])
noncomputable def Ffi_entS (slf_Ffi : (Condition × (List Str) × Int)→Option Bool) : Ent:=entT [false,false,false] Ffi_A Ffi_R slf_Ffi
theorem Ffi_FS (slf_Ffi : (Condition × (List Str) × Int)→Option Bool) {x} {r} (h : slf_Ffi x=some r) : (Ffi_entS slf_Ffi).F (Ffi_A x)=some (Ffi_R r):=entT_F (cA_inj encI_Condition1_inj (cA_inj (isl_inj str_inj) (oA_inj I_inj))) h
noncomputable def Ffi_ent : Ent:=Ffi_entS (fixO Ffi_G)
theorem Ffi_F {c_1 : Condition} {facts_2 : List Str} {day_3 : Int} {r} (h : Ffi c_1 facts_2 day_3=some r) : Ffi_ent.F (Ffi_A (c_1,facts_2,day_3))=some (Ffi_R r):=Ffi_FS (fixO Ffi_G) h
noncomputable def Ffi_c : Code:=bodyOf Tryd.f50
noncomputable def Ffi_E (slf_Ffi : (Condition × (List Str) × Int)→Option Bool) : Env:=mkE Tryd.prog [(91,Ffbd_ent),(50,(Ffi_entS slf_Ffi))]
def Ffi_Q (slf_Ffi : (Condition × (List Str) × Int)→Option Bool) (x : Condition × (List Str) × Int) (r : Bool) : St→Prop:=QF (Ffi_E slf_Ffi) Tryd.f50 [false,false,false] (Ffi_A x) (Ffi_R r)
theorem Ffi_run (slf_Ffi : (Condition × (List Str) × Int)→Option Bool) (c_1 : Condition) (facts_2 : List Str) (day_3 : Int) (r : Bool) (h : Ffi_B slf_Ffi c_1 facts_2 day_3=some r) : RunF (Ffi_E slf_Ffi) Tryd.f50 [false,false,false] 0 (Ffi_A (c_1,facts_2,day_3)) (Ffi_R r):=by
 show Run _ _ (Ffi_Q slf_Ffi (c_1,facts_2,day_3) r) [.code Ffi_c] _
 refine rin (n:=67) [(0,.agg [I (c_1.Op),str (c_1.Name),I (c_1.Day),.isl false ((c_1.Parts).map encI_Condition)]),(1,.isl false ((facts_2).map str)),(2,I (day_3))] [] 1 (by kernel_rfl) (by kernel_rfl) (by kernel_rfl) rfl ?_
 unfold Ffi_B at h
 refine ck 17 [3,8,9] [] [1] [] [.hp 1 0 [] 4 0 0,I (c_1.Op),B ((c_1.Op == 2))] [some ⟨0,4,[.agg [I (c_1.Op),str (c_1.Name),I (c_1.Day),.isl false ((c_1.Parts).map encI_Condition)]]⟩] 97 (by kernel_rfl) ?_
 refine sq h (fun h=>?_) (fun h=>?_)
 · refine cq 5 [11,13] [.isl false ((facts_2).map str),str (c_1.Name)] 145 ?_
   obtain ⟨r4,hr4,h⟩:=bS h
   refine oq 161 (B (r4)) rfl (e_callV rfl rfl (call_P rfl rfl rfl (avS (shP rfl) (avS (shP rfl) (avN))) (Ffbd_F hr4) (.inr rfl) (bl_n) rfl rfl rfl)) ?_
   refine cq 2 [6] [B (r4)] 177 ?_
   obtain rfl:=Option.some.inj h
   exact s_ret rfl ⟨_,fin (vs:=[B (r4)]) rfl (absE (absorb_plain rfl) (absEN)) rfl (ou_f (ou_f (ou_f (ou_n)))),kl_n⟩
 · refine cq 5 [15] [B ((c_1.Op == 3))] 129 ?_
   refine sq h (fun h=>?_) (fun h=>?_)
   · refine cq 8 [6] [B ((decide (day_3 ≥ c_1.Day)))] 209 ?_
     obtain rfl:=Option.some.inj h
     exact s_ret rfl ⟨_,fin (vs:=[B ((decide (day_3 ≥ c_1.Day)))]) rfl (absE (absorb_plain rfl) (absEN)) rfl (ou_f (ou_f (ou_f (ou_n)))),kl_n⟩
   · refine cq 5 [21] [B ((c_1.Op == 4))] 161 ?_
     refine sq h (fun h=>?_) (fun h=>?_)
     · refine cq 4 [24] [.isl false ((c_1.Parts).map encI_Condition)] 193 ?_
       obtain ⟨e5,he5,h⟩:=bS h
       refine oq 209 (.iptr (.agg [I (e5.Op),str (e5.Name),I (e5.Day),.isl false ((e5.Parts).map encI_Condition)]) 0) rfl (e_indexAddr rfl rfl rfl (ix_islE rfl rfl (encI_Condition_eq e5) rfl he5)) ?_
       refine cq 3 [26,27,28] [.agg [I (e5.Op),str (e5.Name),I (e5.Day),.isl false ((e5.Parts).map encI_Condition)],.isl false ((facts_2).map str),I (day_3)] 257 ?_
       obtain ⟨r6,hr6,h⟩:=bS h
       refine oq 273 (B (r6)) rfl (e_callV rfl rfl (call_P rfl rfl rfl (avS (shP rfl) (avS (shP rfl) (avS (shP rfl) (avN)))) (Ffi_FS slf_Ffi hr6) (.inr rfl) (bl_n) rfl rfl rfl)) ?_
       refine cq 3 [6] [B ((!r6))] 305 ?_
       obtain rfl:=Option.some.inj h
       exact s_ret rfl ⟨_,fin (vs:=[B ((!r6))]) rfl (absE (absorb_plain rfl) (absEN)) rfl (ou_f (ou_f (ou_f (ou_n)))),kl_n⟩
     · refine cq 5 [31] [B ((c_1.Op == 5))] 193 ?_
       refine sq h (fun h=>?_) (fun h=>?_)
       · refine cq 4 [34] [.isl false ((c_1.Parts).map encI_Condition)] 225 ?_
         obtain ⟨e7,he7,h⟩:=bS h
         refine oq 241 (.iptr (.agg [I (e7.Op),str (e7.Name),I (e7.Day),.isl false ((e7.Parts).map encI_Condition)]) 0) rfl (e_indexAddr rfl rfl rfl (ix_islE rfl rfl (encI_Condition_eq e7) rfl he7)) ?_
         refine cq 3 [36,37,38] [.agg [I (e7.Op),str (e7.Name),I (e7.Day),.isl false ((e7.Parts).map encI_Condition)],.isl false ((facts_2).map str),I (day_3)] 289 ?_
         obtain ⟨r8,hr8,h⟩:=bS h
         refine oq 305 (B (r8)) rfl (e_callV rfl rfl (call_P rfl rfl rfl (avS (shP rfl) (avS (shP rfl) (avS (shP rfl) (avN)))) (Ffi_FS slf_Ffi hr8) (.inr rfl) (bl_n) rfl rfl rfl)) ?_
         refine cq 1 [40] [B (r8)] 321 ?_
         obtain ⟨y9,hy9,hy91,hy92⟩:=bJ h
         have j9 : ∀ u9,y9=.inr u9→Run (Ffi_E slf_Ffi) 0 (Ffi_Q slf_Ffi (c_1,facts_2,day_3) r) (.code (cR (cL (cR (cR (cR (cR (cR (cR (cR (cL (cR (cL (cR Ffi_c))))))))))))) :: .blk 0 :: .code (cR (cR Ffi_c)) :: []) (sT 67 [(6,B (u9))] [] 1):=by
           intro u9 hu
           replace h:=hy92 u9 hu
           obtain rfl:=Option.some.inj h
           exact s_ret rfl ⟨_,fin (vs:=[B (u9)]) rfl (absE (absorb_plain rfl) (absEN)) rfl (ou_f (ou_f (ou_f (ou_n)))),kl_n⟩
         have r9 : ∀ r',y9=.inl r'→∀ st,Ffi_Q slf_Ffi (c_1,facts_2,day_3) r' st→(Ffi_Q slf_Ffi (c_1,facts_2,day_3) r) st:=fun r' e st hq=>by rw [hy91 r' e] at hq; exact hq
         replace h:=hy9
         refine sp 40 h rfl (fun h=>?_) (fun h=>?_)
         · refine cq 2 [42] [.isl false ((c_1.Parts).map encI_Condition)] 353 ?_
           obtain ⟨e10,he10,h⟩:=bS h
           refine oy 369 (.iptr (.agg [I (e10.Op),str (e10.Name),I (e10.Day),.isl false ((e10.Parts).map encI_Condition)]) 0) rfl (e_indexAddr rfl rfl rfl (ix_islE rfl rfl (encI_Condition_eq e10) rfl he10)) ?_
           refine cq 3 [44,45,46] [.agg [I (e10.Op),str (e10.Name),I (e10.Day),.isl false ((e10.Parts).map encI_Condition)],.isl false ((facts_2).map str),I (day_3)] 417 ?_
           obtain ⟨r11,hr11,h⟩:=bS h
           refine oy 433 (B (r11)) rfl (e_callV rfl rfl (call_P rfl rfl rfl (avS (shP rfl) (avS (shP rfl) (avS (shP rfl) (avN)))) (Ffi_FS slf_Ffi hr11) (.inr rfl) (bl_n) rfl rfl rfl)) ?_
           refine cq 3 [6] [B (r11)] 465 ?_
           exact rf [6] [] (j9 _ (Option.some.inj h).symm :)
         · refine cq 10 [6] [B (false)] 465 ?_
           exact rf [6] [] (j9 _ (Option.some.inj h).symm :)
       · refine cq 5 [49] [B ((c_1.Op == 6))] 225 ?_
         refine sq h (fun h=>?_) (fun h=>?_)
         · refine cq 4 [52] [.isl false ((c_1.Parts).map encI_Condition)] 257 ?_
           obtain ⟨e12,he12,h⟩:=bS h
           refine oq 273 (.iptr (.agg [I (e12.Op),str (e12.Name),I (e12.Day),.isl false ((e12.Parts).map encI_Condition)]) 0) rfl (e_indexAddr rfl rfl rfl (ix_islE rfl rfl (encI_Condition_eq e12) rfl he12)) ?_
           refine cq 3 [54,55,56] [.agg [I (e12.Op),str (e12.Name),I (e12.Day),.isl false ((e12.Parts).map encI_Condition)],.isl false ((facts_2).map str),I (day_3)] 321 ?_
           obtain ⟨r13,hr13,h⟩:=bS h
           refine oq 337 (B (r13)) rfl (e_callV rfl rfl (call_P rfl rfl rfl (avS (shP rfl) (avS (shP rfl) (avS (shP rfl) (avN)))) (Ffi_FS slf_Ffi hr13) (.inr rfl) (bl_n) rfl rfl rfl)) ?_
           refine cq 1 [58] [B (r13)] 353 ?_
           obtain ⟨y14,hy14,hy141,hy142⟩:=bJ h
           have j14 : ∀ u14,y14=.inr u14→Run (Ffi_E slf_Ffi) 0 (Ffi_Q slf_Ffi (c_1,facts_2,day_3) r) (.code (cR (cL (cR (cR (cR (cR (cR (cR (cR (cR (cR (cL (cR (cL (cR Ffi_c))))))))))))))) :: .blk 0 :: .code (cR (cR Ffi_c)) :: []) (sT 67 [(6,B (u14))] [] 1):=by
             intro u14 hu
             replace h:=hy142 u14 hu
             obtain rfl:=Option.some.inj h
             exact s_ret rfl ⟨_,fin (vs:=[B (u14)]) rfl (absE (absorb_plain rfl) (absEN)) rfl (ou_f (ou_f (ou_f (ou_n)))),kl_n⟩
           have r14 : ∀ r',y14=.inl r'→∀ st,Ffi_Q slf_Ffi (c_1,facts_2,day_3) r' st→(Ffi_Q slf_Ffi (c_1,facts_2,day_3) r) st:=fun r' e st hq=>by rw [hy141 r' e] at hq; exact hq
           replace h:=hy14
           refine sp 58 h rfl (fun h=>?_) (fun h=>?_)
           · refine cq 10 [6] [B (true)] 497 ?_
             exact rf [6] [] (j14 _ (Option.some.inj h).symm :)
           · refine cq 2 [60] [.isl false ((c_1.Parts).map encI_Condition)] 385 ?_
             obtain ⟨e15,he15,h⟩:=bS h
             refine oy 401 (.iptr (.agg [I (e15.Op),str (e15.Name),I (e15.Day),.isl false ((e15.Parts).map encI_Condition)]) 0) rfl (e_indexAddr rfl rfl rfl (ix_islE rfl rfl (encI_Condition_eq e15) rfl he15)) ?_
             refine cq 3 [62,63,64] [.agg [I (e15.Op),str (e15.Name),I (e15.Day),.isl false ((e15.Parts).map encI_Condition)],.isl false ((facts_2).map str),I (day_3)] 449 ?_
             obtain ⟨r16,hr16,h⟩:=bS h
             refine oy 465 (B (r16)) rfl (e_callV rfl rfl (call_P rfl rfl rfl (avS (shP rfl) (avS (shP rfl) (avS (shP rfl) (avN)))) (Ffi_FS slf_Ffi hr16) (.inr rfl) (bl_n) rfl rfl rfl)) ?_
             refine cq 3 [6] [B (r16)] 497 ?_
             exact rf [6] [] (j14 _ (Option.some.inj h).symm :)
         · refine aq 1 ?_
           refine cq 5 [6] [B (true)] 241 ?_
           obtain rfl:=Option.some.inj h
           exact s_ret rfl ⟨_,fin (vs:=[B (true)]) rfl (absE (absorb_plain rfl) (absEN)) rfl (ou_f (ou_f (ou_f (ou_n)))),kl_n⟩
theorem Ffi_good {G : Go.Ln.Ground} : Good Tryd.prog G 50 Ffi_ent:=good_rec fun slf_Ffi g_Ffi=>good_T (fnOf_good (gl_c Ffbd_good (gl_c g_Ffi (gl_n)))) agree_mk (Checked.mixed Tryd.checked) Tryd.func50 (n:=3) (m:=0) ⟨rfl,rfl,by decide⟩ (fun _=>⟨rfl,rfl⟩) (fun a r h=>Ffi_run slf_Ffi a.1 a.2.1 a.2.2 r h)
def Ffl_A : (Condition × Condition × Bool)→List V:=cA encI_Condition1 (cA encI_Condition1 (oA B))
def Ffl_R (r : Bool × Bool) : V × List V:=(.tup [B (r.1),B (r.2)],[])
noncomputable def Ffl_ent : Ent:=entT [false,false,false] Ffl_A Ffl_R fun x=>Ffl x.1 x.2.1 x.2.2
theorem Ffl_F {a_1 : Condition} {b_2 : Condition} {holds_3 : Bool} {r} (h : Ffl a_1 b_2 holds_3=some r) : (Ffl_ent).F (Ffl_A (a_1,b_2,holds_3))=some (Ffl_R r):=entT_F (cA_inj encI_Condition1_inj (cA_inj encI_Condition1_inj (oA_inj B_inj))) h
noncomputable def Ffl_c : Code:=bodyOf Tryd.f41
noncomputable abbrev Ffl_ka : Code:=cL (cL (cR (cL (cR (cR (cL (cL (cR (cR (cL (cL (cR (cL (cR (cR (cR (cR Ffl_c)))))))))))))))))
noncomputable abbrev Ffl_kb : Code:=cL (cL (cR (cR (cR (cR (cL (cL (cR (cR (cL (cL (cR (cL (cR (cR (cR (cR Ffl_c)))))))))))))))))
noncomputable def Ffl_E : Env:=mkE Tryd.prog [(48,Ffg_ent),(47,Ffk_ent),(49,Fff_ent),(50,Ffi_ent)]
def Ffl_Q (x : Condition × Condition × Bool) (r : Bool × Bool) : St→Prop:=QF Ffl_E Tryd.f41 [false,false,false] (Ffl_A x) (Ffl_R r)
theorem Ffl_lb_run (a_1 : Condition) (b_2 : Condition) (holds_3 : Bool) (r6 : (List Str)) (x10 : Int) (r8 : (List Int)) (q9 : Int) {Q : St→Prop} {K : List It} (hK : noD K=true) : ∀ (x11 : Int × (List Str)) (y : (Bool × Bool) ⊕ ((List Str))),Ffl_lb a_1 b_2 holds_3 r6 x10 r8 q9 x11=some y→(∀ r',y=.inl r'→∀ st,Ffl_Q (a_1,b_2,holds_3) r' st→Q st)→(∀ u : (List Str),y=.inr u→Run Ffl_E 0 Q K (sT 73 [(2,B (holds_3)),(3,.hp 1 0 [] 4 0 0),(4,.hp 2 0 [] 4 0 0),(8,.hs 3 0 [] 1 0 ((r6).map str).length),(9,.hs 4 0 [] 1 0 ((r8).map I).length),(11,.hs 5 0 [] 1 0 ((u).map str).length),(31,I (q9)),(32,I (x10))] [⟨0,4,[.agg [I (a_1.Op),str (a_1.Name),I (a_1.Day),.isl false ((a_1.Parts).map encI_Condition)]]⟩,⟨0,4,[.agg [I (b_2.Op),str (b_2.Name),I (b_2.Day),.isl false ((b_2.Parts).map encI_Condition)]]⟩,⟨0,1,(r6).map str⟩,⟨0,1,(r8).map I⟩,⟨0,1,(u).map str⟩] 6))→Run Ffl_E 0 Q (.code Ffl_ka :: .lp Ffl_ka :: .blk 2 :: K) (sT 73 [(2,B (holds_3)),(3,.hp 1 0 [] 4 0 0),(4,.hp 2 0 [] 4 0 0),(8,.hs 3 0 [] 1 0 ((r6).map str).length),(9,.hs 4 0 [] 1 0 ((r8).map I).length),(10,I (x10)),(11,.hs 5 0 [] 1 0 ((x11.2).map str).length),(31,I (q9)),(32,I (x10)),(36,.hs 3 0 [] 1 0 ((r6).map str).length),(37,I ((len r6))),(38,I (x11.1))] [⟨0,4,[.agg [I (a_1.Op),str (a_1.Name),I (a_1.Day),.isl false ((a_1.Parts).map encI_Condition)]]⟩,⟨0,4,[.agg [I (b_2.Op),str (b_2.Name),I (b_2.Day),.isl false ((b_2.Parts).map encI_Condition)]]⟩,⟨0,1,(r6).map str⟩,⟨0,1,(r8).map I⟩,⟨0,1,(x11.2).map str⟩] 6):=by
 refine fix_indP (Ffl_lb_fin a_1 b_2 holds_3 r6 x10 r8 q9) ?_
 intro self ih x11 y h hr hn
 unfold Ffl_lb_F at h
 refine cq 5 [39] [B ((decide (x11.1 < (len r6))))] 22 ?_
 refine sq h (fun h=>?_) (fun h=>?_)
 · refine aq 1 ?_
   refine cq 5 [40] [I (x11.1)] 38 ?_
   obtain ⟨e12,he12,h⟩:=bS h
   refine oq 54 (.hp 3 0 [] 1 (0 + Int.toNat (x11.1)) 0) rfl (e_indexAddr rfl rfl rfl (ix_hsM (f:=str) (xs:=r6) rfl rfl rfl he12)) ?_
   refine oq 70 (str (e12)) rfl (e_ld rfl (ld_at (path:=[]) rfl rfl rfl (ra_n) (get_map (f:=str) (xs:=r6) he12) rfl rfl rfl)) ?_
   refine cq 7 [13,43,44] [str (e12),I (x10),I (x11.1)] 134 ?_
   obtain ⟨q13,hq13,h⟩:=bS h
   refine oq 150 (I (q13)) rfl (e_bin rfl rfl (b_shr hq13)) ?_
   refine cq 3 [47] [B (((andI .i64 q13 1) == 1))] 182 ?_
   obtain ⟨y14,hy14,hy141,hy142⟩:=bL h
   have j14 : ∀ u14,y14=.inr u14→Run Ffl_E 0 Q (.blk 3 :: .code (cR (cR (cR Ffl_ka))) :: .lp Ffl_ka :: .blk 2 :: K) (sT 73 [(2,B (holds_3)),(3,.hp 1 0 [] 4 0 0),(4,.hp 2 0 [] 4 0 0),(8,.hs 3 0 [] 1 0 ((r6).map str).length),(9,.hs 4 0 [] 1 0 ((r8).map I).length),(10,I (x10)),(11,.hs 5 0 [] 1 0 ((u14).map str).length),(31,I (q9)),(32,I (x10)),(36,.hs 3 0 [] 1 0 ((r6).map str).length),(37,I ((len r6))),(38,I (x11.1))] [⟨0,4,[.agg [I (a_1.Op),str (a_1.Name),I (a_1.Day),.isl false ((a_1.Parts).map encI_Condition)]]⟩,⟨0,4,[.agg [I (b_2.Op),str (b_2.Name),I (b_2.Day),.isl false ((b_2.Parts).map encI_Condition)]]⟩,⟨0,1,(r6).map str⟩,⟨0,1,(r8).map I⟩,⟨0,1,(u14).map str⟩] 6):=by
     intro u14 hu
     replace h:=hy142 u14 hu
     refine cq 5 [38] [I ((w64 (x11.1 + 1)))] 38 ?_
     refine s_lp ?_
     exact rf [2,3,4,8,9,10,11,31,32,36,37,38] [1,2,3,4,5] (ih _ _ h hr hn :)
   have r14 : ∀ r',y14=.inl r'→∀ st,Ffl_Q (a_1,b_2,holds_3) r' st→Q st:=fun r' e st hq=>hr r' (hy141 r' e) st hq
   replace h:=hy14
   refine sq h (fun h=>?_) (fun h=>?_)
   · refine cq 3 [48,49] [.hs 5 0 [] 1 0 ((x11.2).map str).length,str (e12)] 214 ?_
     refine oq 230 (.hs 214 0 [] 1 0 1) rfl (e_buildSlice rfl (bs_mk (f:=I) (xs:=[]) (z:=str ([])) (es:=[str (e12)]) (ws:=[str (e12)]) rfl rfl rfl (by decide) rfl (abs_each_plain rfl) rfl)) ?_
     obtain ⟨a15,ha15,h⟩:=bS h
     refine oq 246 (.hs 230 0 [] 1 0 ((a15).map str).length) rfl (e_append rfl rfl rfl rfl rfl (ap_hsM (path:=[]) (f:=str) (xs:=x11.2) (ys:=[e12]) rfl rfl (take_hs rfl rfl rfl) rfl rfl rfl (ra_n) rfl (by decide) str_cells ha15 rfl (to_n))) ?_
     refine cq 2 [11] [.hs 230 0 [] 1 0 ((a15).map str).length] 262 ?_
     exact rf [2,3,4,8,9,10,11,31,32,36,37,38] [1,2,3,4,230] (j14 _ (Option.some.inj h).symm :)
   · refine aq 1 ?_
     exact rf [2,3,4,8,9,10,11,31,32,36,37,38] [1,2,3,4,5] (j14 _ (Option.some.inj h).symm :)
 · refine aq 1 ?_
   exact rf [2,3,4,8,9,11,31,32] [1,2,3,4,5] (hn _ (Option.some.inj h).symm :) (hk:=hK)
theorem Ffl_lc_run (a_1 : Condition) (b_2 : Condition) (holds_3 : Bool) (r8 : (List Int)) (u16 : (List Str)) (r6 : (List Str)) (q9 : Int) (x10 : Int) {Q : St→Prop} {K : List It} (hK : noD K=true) : ∀ (x17 : Int) (y : (Bool × Bool) ⊕ Unit),Ffl_lc a_1 b_2 holds_3 r8 u16 r6 q9 x10 x17=some y→(∀ r',y=.inl r'→∀ st,Ffl_Q (a_1,b_2,holds_3) r' st→Q st)→(∀ u : Unit,y=.inr u→Run Ffl_E 0 Q K (sT 73 [(2,B (holds_3)),(3,.hp 1 0 [] 4 0 0),(4,.hp 2 0 [] 4 0 0),(8,.hs 3 0 [] 1 0 ((r6).map str).length),(9,.hs 4 0 [] 1 0 ((r8).map I).length),(31,I (q9)),(32,I (x10))] [⟨0,4,[.agg [I (a_1.Op),str (a_1.Name),I (a_1.Day),.isl false ((a_1.Parts).map encI_Condition)]]⟩,⟨0,4,[.agg [I (b_2.Op),str (b_2.Name),I (b_2.Day),.isl false ((b_2.Parts).map encI_Condition)]]⟩,⟨0,1,(r6).map str⟩,⟨0,1,(r8).map I⟩] 5))→Run Ffl_E 0 Q (.code Ffl_kb :: .lp Ffl_kb :: .blk 4 :: K) (sT 73 [(2,B (holds_3)),(3,.hp 1 0 [] 4 0 0),(4,.hp 2 0 [] 4 0 0),(8,.hs 3 0 [] 1 0 ((r6).map str).length),(9,.hs 4 0 [] 1 0 ((r8).map I).length),(11,.hs 5 0 [] 1 0 ((u16).map str).length),(31,I (q9)),(32,I (x10)),(53,.hs 4 0 [] 1 0 ((r8).map I).length),(54,I ((len r8))),(55,I (x17))] [⟨0,4,[.agg [I (a_1.Op),str (a_1.Name),I (a_1.Day),.isl false ((a_1.Parts).map encI_Condition)]]⟩,⟨0,4,[.agg [I (b_2.Op),str (b_2.Name),I (b_2.Day),.isl false ((b_2.Parts).map encI_Condition)]]⟩,⟨0,1,(r6).map str⟩,⟨0,1,(r8).map I⟩,⟨0,1,(u16).map str⟩] 6):=by
 refine fix_indP (Ffl_lc_fin a_1 b_2 holds_3 r8 u16 r6 q9 x10) ?_
 intro self ih x17 y h hr hn
 unfold Ffl_lc_F at h
 refine cq 5 [56] [B ((decide (x17 < (len r8))))] 22 ?_
 refine sq h (fun h=>?_) (fun h=>?_)
 · refine aq 1 ?_
   refine aq 4 ?_
   obtain ⟨e18,he18,h⟩:=bS h
   refine oq 38 (.hp 4 0 [] 1 (0 + Int.toNat (x17)) 0) rfl (e_indexAddr rfl rfl rfl (ix_hsM (f:=I) (xs:=r8) rfl rfl rfl he18)) ?_
   refine oq 54 (I (e18)) rfl (e_ld rfl (ld_at (path:=[]) rfl rfl rfl (ra_n) (get_map (f:=I) (xs:=r8) he18) rfl rfl rfl)) ?_
   refine cq 7 [15,59,60,61] [I (e18),.agg [I (a_1.Op),str (a_1.Name),I (a_1.Day),.isl false ((a_1.Parts).map encI_Condition)],.hs 5 0 [] 1 0 ((u16).map str).length,I (e18)] 118 ?_
   obtain ⟨r19,hr19,h⟩:=bS h
   refine oq 134 (B (r19)) rfl (e_callV rfl rfl (call_P rfl rfl rfl (avS (shP rfl) (avS (sh1 rfl rfl (sh_hsM (f:=str) (g:=str) (xs:=u16) rfl rfl (imms_of str_imm))) (avS (shP rfl) (avN)))) (Ffi_F hr19) (.inl (rfl)) (bl_n) rfl rfl rfl)) ?_
   refine cq 1 [63] [B (r19)] 150 ?_
   obtain ⟨y20,hy20,hy201,hy202⟩:=bL h
   have j20 : ∀ u20,y20=.inr u20→Run Ffl_E 0 Q (.code (cR (cR (cL (cL (cR (cR Ffl_kb)))))) :: .blk 5 :: .code (cR (cR (cR Ffl_kb))) :: .lp Ffl_kb :: .blk 4 :: K) (sT 73 [(2,B (holds_3)),(3,.hp 1 0 [] 4 0 0),(4,.hp 2 0 [] 4 0 0),(8,.hs 3 0 [] 1 0 ((r6).map str).length),(9,.hs 4 0 [] 1 0 ((r8).map I).length),(11,.hs 5 0 [] 1 0 ((u16).map str).length),(31,I (q9)),(32,I (x10)),(53,.hs 4 0 [] 1 0 ((r8).map I).length),(54,I ((len r8))),(55,I (x17)),(70,B (u20))] [⟨0,4,[.agg [I (a_1.Op),str (a_1.Name),I (a_1.Day),.isl false ((a_1.Parts).map encI_Condition)]]⟩,⟨0,4,[.agg [I (b_2.Op),str (b_2.Name),I (b_2.Day),.isl false ((b_2.Parts).map encI_Condition)]]⟩,⟨0,1,(r6).map str⟩,⟨0,1,(r8).map I⟩,⟨0,1,(u16).map str⟩] 6):=by
     intro u20 hu
     replace h:=hy202 u20 hu
     refine sq h (fun h=>?_) (fun h=>?_)
     · refine cq 5 [6,7] [B (true),B (true)] 38 ?_
       exact s_ret rfl (hr _ (Option.some.inj h).symm _ ⟨_,fin (vs:=[B (true),B (true)]) rfl (absE (absorb_plain rfl) (absE (absorb_plain rfl) (absEN))) rfl (ou_f (ou_f (ou_f (ou_n)))),kl_n⟩)
     · refine aq 1 ?_
       refine cq 5 [55] [I ((w64 (x17 + 1)))] 38 ?_
       refine s_lp ?_
       exact rf [2,3,4,8,9,11,31,32,53,54,55] [1,2,3,4,5] (ih _ _ h hr hn :)
   have r20 : ∀ r',y20=.inl r'→∀ st,Ffl_Q (a_1,b_2,holds_3) r' st→Q st:=fun r' e st hq=>hr r' (hy201 r' e) st hq
   replace h:=hy20
   refine sp 63 h rfl (fun h=>?_) (fun h=>?_)
   · refine cq 3 [64,65,66] [.agg [I (b_2.Op),str (b_2.Name),I (b_2.Day),.isl false ((b_2.Parts).map encI_Condition)],.hs 5 0 [] 1 0 ((u16).map str).length,I (e18)] 198 ?_
     obtain ⟨r21,hr21,h⟩:=bS h
     refine oy 214 (B (r21)) rfl (e_callV rfl rfl (call_P rfl rfl rfl (avS (shP rfl) (avS (sh1 rfl rfl (sh_hsM (f:=str) (g:=str) (xs:=u16) rfl rfl (imms_of str_imm))) (avS (shP rfl) (avN)))) (Ffi_F hr21) (.inl (rfl)) (bl_n) rfl rfl rfl)) ?_
     refine cq 4 [70] [B ((r21 == holds_3))] 262 ?_
     exact rf [2,3,4,8,9,11,31,32,53,54,55,70] [1,2,3,4,5] (j20 _ (Option.some.inj h).symm :)
   · refine cq 8 [70] [B (false)] 262 ?_
     exact rf [2,3,4,8,9,11,31,32,53,54,55,70] [1,2,3,4,5] (j20 _ (Option.some.inj h).symm :)
 · refine aq 1 ?_
   exact rf [2,3,4,8,9,31,32] [1,2,3,4] (hn _ (Option.some.inj h).symm :) (hk:=hK)
theorem Ffl_la_run (a_1 : Condition) (b_2 : Condition) (holds_3 : Bool) (q9 : Int) (r6 : (List Str)) (r8 : (List Int)) {Q : St→Prop} {K : List It} (hK : noD K=true) : ∀ (x10 : Int) (y : (Bool × Bool) ⊕ Unit),Ffl_la a_1 b_2 holds_3 q9 r6 r8 x10=some y→(∀ r',y=.inl r'→∀ st,Ffl_Q (a_1,b_2,holds_3) r' st→Q st)→(∀ u : Unit,y=.inr u→Run Ffl_E 0 Q K (sT 73 [] [] 1))→Run Ffl_E 0 Q (.code (cL (cL (cR (cL (cR (cR (cR (cR Ffl_c)))))))) :: .lp (cL (cL (cR (cL (cR (cR (cR (cR Ffl_c)))))))) :: .blk 0 :: K) (sT 73 [(2,B (holds_3)),(3,.hp 1 0 [] 4 0 0),(4,.hp 2 0 [] 4 0 0),(8,.hs 3 0 [] 1 0 ((r6).map str).length),(9,.hs 4 0 [] 1 0 ((r8).map I).length),(31,I (q9)),(32,I (x10))] [⟨0,4,[.agg [I (a_1.Op),str (a_1.Name),I (a_1.Day),.isl false ((a_1.Parts).map encI_Condition)]]⟩,⟨0,4,[.agg [I (b_2.Op),str (b_2.Name),I (b_2.Day),.isl false ((b_2.Parts).map encI_Condition)]]⟩,⟨0,1,(r6).map str⟩,⟨0,1,(r8).map I⟩] 5):=by
 refine fix_indP (Ffl_la_fin a_1 b_2 holds_3 q9 r6 r8) ?_
 intro self ih x10 y h hr hn
 unfold Ffl_la_F at h
 refine cq 5 [33] [B ((decide (x10 < q9)))] 21 ?_
 refine sq h (fun h=>?_) (fun h=>?_)
 · refine aq 1 ?_
   refine cq 9 [10] [I (x10)] 53 ?_
   refine oq 69 (.hs 53 0 [] 1 0 0) rfl (e_buildSlice rfl (bs_mk (f:=I) (xs:=[]) (z:=str ([])) (es:=[]) (ws:=[]) rfl rfl rfl (by decide) rfl (abs_each_plain rfl) rfl)) ?_
   refine cq 6 [11,36] [.hs 53 0 [] 1 0 0,.hs 3 0 [] 1 0 ((r6).map str).length] 101 ?_
   refine oq 117 (I ((len r6))) rfl (e_len rfl rfl rfl (l_hsM (f:=str) (xs:=r6) rfl rfl)) ?_
   refine cq 3 [38] [I (0)] 133 ?_
   obtain ⟨y16,hy16,hy161,hy162⟩:=bL h
   refine s_loop rfl ?_
   refine rf [2,3,4,8,9,10,11,31,32,36,37,38] [1,2,3,4,53] (Ffl_lb_run a_1 b_2 holds_3 r6 x10 r8 q9 rfl (0,[]) _ hy16 (fun r' e st hq=>hr r' (hy161 r' e) st hq) fun u16 hu=>?_)
   replace h:=hy162 u16 hu
   refine cq 3 [53] [.hs 4 0 [] 1 0 ((r8).map I).length] 22 ?_
   refine oq 38 (I ((len r8))) rfl (e_len rfl rfl rfl (l_hsM (f:=I) (xs:=r8) rfl rfl)) ?_
   refine cq 3 [55] [I (0)] 54 ?_
   obtain ⟨y22,hy22,hy221,hy222⟩:=bL h
   refine s_loop rfl ?_
   refine rf [2,3,4,8,9,11,31,32,53,54,55] [1,2,3,4,5] (Ffl_lc_run a_1 b_2 holds_3 r8 u16 r6 q9 x10 rfl 0 _ hy22 (fun r' e st hq=>hr r' (hy221 r' e) st hq) fun u22 hu=>?_)
   replace h:=hy222 u22 hu
   refine cq 5 [32] [I ((w64 (x10 + 1)))] 37 ?_
   refine s_lp ?_
   exact rf [2,3,4,8,9,31,32] [1,2,3,4] (ih _ _ h hr hn :)
 · refine aq 1 ?_
   exact rf [] [] (hn _ (Option.some.inj h).symm :) (hk:=hK)
theorem Ffl_run (a_1 : Condition) (b_2 : Condition) (holds_3 : Bool) (r : Bool × Bool) (h : Ffl a_1 b_2 holds_3=some r) : RunF Ffl_E Tryd.f41 [false,false,false] 0 (Ffl_A (a_1,b_2,holds_3)) (Ffl_R r):=by
 show Run _ _ (Ffl_Q (a_1,b_2,holds_3) r) [.code Ffl_c] _
 refine rin (n:=73) [(0,.agg [I (a_1.Op),str (a_1.Name),I (a_1.Day),.isl false ((a_1.Parts).map encI_Condition)]),(1,.agg [I (b_2.Op),str (b_2.Name),I (b_2.Day),.isl false ((b_2.Parts).map encI_Condition)]),(2,B (holds_3))] [] 1 (by kernel_rfl) (by kernel_rfl) (by kernel_rfl) rfl ?_
 unfold Ffl at h
 refine ck 8 [3,4] [] [1,17] [] [.hp 1 0 [] 4 0 0,.hp 17 0 [] 4 0 0] [some ⟨0,4,[.agg [I (a_1.Op),str (a_1.Name),I (a_1.Day),.isl false ((a_1.Parts).map encI_Condition)]]⟩,some ⟨0,4,[.agg [I (b_2.Op),str (b_2.Name),I (b_2.Day),.isl false ((b_2.Parts).map encI_Condition)]]⟩] 65 (by kernel_rfl) ?_
 refine s_draw [0,0,2,7,15,31] rfl (by decide +kernel) ?_
 refine dq [17] [] (.agg [I (b_2.Op),str (b_2.Name),I (b_2.Day),.isl false ((b_2.Parts).map encI_Condition)]) rfl (e_ld rfl rfl) ?_
 refine dq [1] [] (.agg [I (a_1.Op),str (a_1.Name),I (a_1.Day),.isl false ((a_1.Parts).map encI_Condition)]) rfl (e_ld rfl rfl) ?_
 obtain ⟨r4,hr4,h⟩:=bS h
 refine dq [] [] (.hs 97 0 [] 1 0 ((r4).map str).length) rfl (e_callV rfl rfl (call_P rfl rfl rfl (avS (shP rfl) (avO (hd1 rfl (hd_p rfl)) (avN))) ((show Ffg_ent.F [.agg [I (a_1.Op),str (a_1.Name),I (a_1.Day),.isl false ((a_1.Parts).map encI_Condition)],.isl true []]=some _ from Ffg_F hr4)) (.inr rfl) (bl_n) rfl rfl rfl)) ?_ (w_callO rfl rfl rfl rfl (avS (shP rfl) (avO (hd1 rfl (hd_p rfl)) (avN))) ((show Ffg_ent.F [.agg [I (a_1.Op),str (a_1.Name),I (a_1.Day),.isl false ((a_1.Parts).map encI_Condition)],.isl true []]=some _ from Ffg_F hr4)) (.inr rfl) rfl)
 obtain ⟨r5,hr5,h⟩:=bS h
 refine dq [97] [97] (.hs 113 0 [] 1 0 ((r5).map str).length) rfl (e_callV rfl rfl (call_P rfl rfl rfl (avS (shP rfl) (avO (hd1 rfl (hd_hs (path:=[]) rfl rfl (ra_n) rfl)) (avN))) (Ffg_F hr5) (.inr rfl) (bl_c rfl rfl rfl bk_dead (bl_n)) rfl rfl rfl)) ?_ (w_callO rfl rfl rfl rfl (avS (shP rfl) (avO (hd1 rfl (hd_hs (path:=[]) rfl rfl (ra_n) rfl)) (avN))) (Ffg_F hr5) (.inr rfl) rfl)
 obtain ⟨r6,hr6,h⟩:=bS h
 refine dq [113] [113] (.hs 129 0 [] 1 0 ((r6).map str).length) rfl (e_callV rfl rfl (call_P rfl rfl rfl (avO (hd1 rfl (hd_hs (path:=[]) rfl rfl (ra_n) rfl)) (avN)) (Ffk_F hr6) (.inr rfl) (bl_c rfl rfl rfl bk_dead (bl_n)) rfl rfl rfl)) ?_ (w_callO rfl rfl rfl rfl (avO (hd1 rfl (hd_hs (path:=[]) rfl rfl (ra_n) rfl)) (avN)) (Ffk_F hr6) (.inr rfl) rfl)
 refine dk 1 [8] [.hs 129 0 [] 1 0 ((r6).map str).length] ?_
 refine de 161 rfl rfl ?_
 refine cq 4 [21] [.hs 129 0 [] 1 0 ((r6).map str).length] 177 ?_
 refine oq 193 (I ((len r6))) rfl (e_len rfl rfl rfl (l_hsM (f:=str) (xs:=r6) rfl rfl)) ?_
 refine cq 2 [23] [B ((decide ((len r6) > 10)))] 209 ?_
 refine sq h (fun h=>?_) (fun h=>?_)
 · refine cq 5 [6,7] [B (false),B (false)] 241 ?_
   obtain rfl:=Option.some.inj h
   exact s_ret rfl ⟨_,fin (vs:=[B (false),B (false)]) rfl (absE (absorb_plain rfl) (absE (absorb_plain rfl) (absEN))) rfl (ou_f (ou_f (ou_f (ou_n)))),kl_n⟩
 · refine aq 1 ?_
   refine aq 1 ?_
   refine s_draw [0,0,0,6,15,31] rfl (by decide +kernel) ?_
   refine dq [17] [] (.agg [I (b_2.Op),str (b_2.Name),I (b_2.Day),.isl false ((b_2.Parts).map encI_Condition)]) rfl (e_ld rfl rfl) ?_
   refine dq [1] [] (.agg [I (a_1.Op),str (a_1.Name),I (a_1.Day),.isl false ((a_1.Parts).map encI_Condition)]) rfl (e_ld rfl rfl) ?_
   refine dq [] [] (.hs 241 0 [] 1 0 1) rfl (e_buildSlice rfl (bs_mk (f:=I) (xs:=[]) (z:=I (0)) (es:=[I (0)]) (ws:=[I (0)]) rfl rfl rfl (by decide) rfl (abs_each_plain rfl) rfl)) ?_
   obtain ⟨r7,hr7,h⟩:=bS h
   refine dq [241] [241] (.hs 257 0 [] 1 0 ((r7).map I).length) rfl (e_callV rfl rfl (call_P rfl rfl rfl (avS (shP rfl) (avO (hd1 rfl (hd_hs (path:=[]) (m:=1) (es2:=[I (0)]) rfl rfl (ra_n) rfl)) (avN))) (Fff_F hr7) (.inr rfl) (bl_c rfl rfl rfl bk_dead (bl_n)) rfl rfl rfl)) ?_ (w_callO rfl rfl rfl rfl (avS (shP rfl) (avO (hd1 rfl (hd_hs (path:=[]) (m:=1) (es2:=[I (0)]) rfl rfl (ra_n) rfl)) (avN))) (Fff_F hr7) (.inr rfl) rfl)
   obtain ⟨r8,hr8,h⟩:=bS h
   refine dq [257] [257] (.hs 273 0 [] 1 0 ((r8).map I).length) rfl (e_callV rfl rfl (call_P rfl rfl rfl (avS (shP rfl) (avO (hd1 rfl (hd_hs (path:=[]) rfl rfl (ra_n) rfl)) (avN))) (Fff_F hr8) (.inr rfl) (bl_c rfl rfl rfl bk_dead (bl_n)) rfl rfl rfl)) ?_ (w_callO rfl rfl rfl rfl (avS (shP rfl) (avO (hd1 rfl (hd_hs (path:=[]) rfl rfl (ra_n) rfl)) (avN))) (Fff_F hr8) (.inr rfl) rfl)
   refine dk 1 [9] [.hs 273 0 [] 1 0 ((r8).map I).length] ?_
   refine de 305 rfl rfl ?_
   refine cq 4 [29] [.hs 129 0 [] 1 0 ((r6).map str).length] 321 ?_
   refine oq 337 (I ((len r6))) rfl (e_len rfl rfl rfl (l_hsM (f:=str) (xs:=r6) rfl rfl)) ?_
   obtain ⟨q9,hq9,h⟩:=bS h
   refine oq 353 (I (q9)) rfl (e_bin rfl rfl (b_shl hq9)) ?_
   refine cq 3 [32] [I (0)] 369 ?_
   obtain ⟨y23,hy23,hy231,hy232⟩:=bJ h
   refine s_loop rfl ?_
   refine rf [2,3,4,8,9,31,32] [1,17,129,273] (Ffl_la_run a_1 b_2 holds_3 q9 r6 r8 rfl 0 _ hy23 (fun r' e st hq=>by rw [hy231 r' e] at hq; exact hq) fun u23 hu=>?_)
   replace h:=hy232 u23 hu
   refine cq 5 [6,7] [B (false),B (true)] 33 ?_
   obtain rfl:=Option.some.inj h
   exact s_ret rfl ⟨_,fin (vs:=[B (false),B (true)]) rfl (absE (absorb_plain rfl) (absE (absorb_plain rfl) (absEN))) rfl (ou_f (ou_f (ou_f (ou_n)))),kl_n⟩
theorem Ffl_good {G : Go.Ln.Ground} : Good Tryd.prog G 41 Ffl_ent:=good_T (fnOf_good (gl_c Ffg_good (gl_c Ffk_good (gl_c Fff_good (gl_c Ffi_good (gl_n)))))) agree_mk (Checked.mixed Tryd.checked) Tryd.func41 (n:=3) (m:=0) ⟨rfl,rfl,by decide⟩ (fun _=>⟨rfl,rfl⟩) (fun a r h=>Ffl_run a.1 a.2.1 a.2.2 r h)
def Ffc_A : (Condition × Condition)→List V:=cA encI_Condition1 (oA encI_Condition1)
def Ffc_R (r : Bool × Bool) : V × List V:=(.tup [B (r.1),B (r.2)],[])
noncomputable def Ffc_ent : Ent:=entT [false,false] Ffc_A Ffc_R fun x=>Ffc x.1 x.2
theorem Ffc_F {a_1 : Condition} {b_2 : Condition} {r} (h : Ffc a_1 b_2=some r) : (Ffc_ent).F (Ffc_A (a_1,b_2))=some (Ffc_R r):=entT_F (cA_inj encI_Condition1_inj (oA_inj encI_Condition1_inj)) h
noncomputable def Ffc_c : Code:=bodyOf Tryd.f11
noncomputable def Ffc_E : Env:=mkE Tryd.prog [(40,Ffd_ent),(41,Ffl_ent)]
def Ffc_Q (x : Condition × Condition) (r : Bool × Bool) : St→Prop:=QF Ffc_E Tryd.f11 [false,false] (Ffc_A x) (Ffc_R r)
theorem Ffc_run (a_1 : Condition) (b_2 : Condition) (r : Bool × Bool) (h : Ffc a_1 b_2=some r) : RunF Ffc_E Tryd.f11 [false,false] 0 (Ffc_A (a_1,b_2)) (Ffc_R r):=by
 show Run _ _ (Ffc_Q (a_1,b_2) r) [.code Ffc_c] _
 refine rin (n:=19) [(0,.agg [I (a_1.Op),str (a_1.Name),I (a_1.Day),.isl false ((a_1.Parts).map encI_Condition)]),(1,.agg [I (b_2.Op),str (b_2.Name),I (b_2.Day),.isl false ((b_2.Parts).map encI_Condition)])] [] 1 (by kernel_rfl) (by kernel_rfl) (by kernel_rfl) rfl ?_
 unfold Ffc at h
 refine ck 11 [2,3,6] [] [1,17] [] [.hp 1 0 [] 4 0 0,.hp 17 0 [] 4 0 0,.agg [I (a_1.Op),str (a_1.Name),I (a_1.Day),.isl false ((a_1.Parts).map encI_Condition)]] [some ⟨0,4,[.agg [I (a_1.Op),str (a_1.Name),I (a_1.Day),.isl false ((a_1.Parts).map encI_Condition)]]⟩,some ⟨0,4,[.agg [I (b_2.Op),str (b_2.Name),I (b_2.Day),.isl false ((b_2.Parts).map encI_Condition)]]⟩] 81 (by kernel_rfl) ?_
 obtain ⟨r3,hr3,h⟩:=bS h
 refine oq 97 (B (r3)) rfl (e_callV rfl rfl (call_P rfl rfl rfl (avS (shP rfl) (avN)) (Ffd_F hr3) (.inr rfl) (bl_n) rfl rfl rfl)) ?_
 refine cq 2 [9] [B ((!r3))] 129 ?_
 obtain ⟨y4,hy4,hy41,hy42⟩:=bJ h
 have j4 : ∀ u4,y4=.inr u4→Run Ffc_E 0 (Ffc_Q (a_1,b_2) r) (.code (cR (cL (cR Ffc_c))) :: .code (cR (cR Ffc_c)) :: []) (sT 19 [(2,.hp 1 0 [] 4 0 0),(3,.hp 2 0 [] 4 0 0),(13,B (u4))] [⟨0,4,[.agg [I (a_1.Op),str (a_1.Name),I (a_1.Day),.isl false ((a_1.Parts).map encI_Condition)]]⟩,⟨0,4,[.agg [I (b_2.Op),str (b_2.Name),I (b_2.Day),.isl false ((b_2.Parts).map encI_Condition)]]⟩] 3):=by
   intro u4 hu
   replace h:=hy42 u4 hu
   refine sq h (fun h=>?_) (fun h=>?_)
   · refine cq 5 [4,5] [B (false),B (false)] 35 ?_
     obtain rfl:=Option.some.inj h
     exact s_ret rfl ⟨_,fin (vs:=[B (false),B (false)]) rfl (absE (absorb_plain rfl) (absE (absorb_plain rfl) (absEN))) rfl (ou_f (ou_f (ou_n))),kl_n⟩
   · refine aq 1 ?_
     refine cq 4 [14,15] [.agg [I (a_1.Op),str (a_1.Name),I (a_1.Day),.isl false ((a_1.Parts).map encI_Condition)],.agg [I (b_2.Op),str (b_2.Name),I (b_2.Day),.isl false ((b_2.Parts).map encI_Condition)]] 35 ?_
     obtain ⟨r5,hr5,h⟩:=bS h
     refine oq 51 (.tup [B (r5.1),B (r5.2)]) rfl (e_callV rfl rfl (call_P rfl rfl rfl (avS (shP rfl) (avS (shP rfl) (avS (shP rfl) (avN)))) (Ffl_F hr5) (.inr rfl) (bl_n) rfl rfl rfl)) ?_
     refine cq 5 [4,5] [B (r5.1),B (r5.2)] 115 ?_
     obtain rfl:=Option.some.inj h
     exact s_ret rfl ⟨_,fin (vs:=[B (r5.1),B (r5.2)]) rfl (absE (absorb_plain rfl) (absE (absorb_plain rfl) (absEN))) rfl (ou_f (ou_f (ou_n))),kl_n⟩
 have r4 : ∀ r',y4=.inl r'→∀ st,Ffc_Q (a_1,b_2) r' st→(Ffc_Q (a_1,b_2) r) st:=fun r' e st hq=>by rw [hy41 r' e] at hq; exact hq
 replace h:=hy4
 refine sp 9 h rfl (fun h=>?_) (fun h=>?_)
 · refine cq 5 [13] [B (true)] 193 ?_
   exact rf [2,3,13] [1,17] (j4 _ (Option.some.inj h).symm :)
 · refine cq 1 [10] [.agg [I (b_2.Op),str (b_2.Name),I (b_2.Day),.isl false ((b_2.Parts).map encI_Condition)]] 145 ?_
   obtain ⟨r6,hr6,h⟩:=bS h
   refine oy 161 (B (r6)) rfl (e_callV rfl rfl (call_P rfl rfl rfl (avS (shP rfl) (avN)) (Ffd_F hr6) (.inr rfl) (bl_n) rfl rfl rfl)) ?_
   refine cq 3 [13] [B ((!r6))] 193 ?_
   exact rf [2,3,13] [1,17] (j4 _ (Option.some.inj h).symm :)
theorem Ffc_good {G : Go.Ln.Ground} : Good Tryd.prog G 11 Ffc_ent:=good_T (fnOf_good (gl_c Ffd_good (gl_c Ffl_good (gl_n)))) agree_mk (Checked.mixed Tryd.checked) Tryd.func11 (n:=2) (m:=0) ⟨rfl,rfl,by decide⟩ (fun _=>⟨rfl,rfl⟩) (fun a r h=>Ffc_run a.1 a.2 r h)
def Ffp_A : (Condition × Condition)→List V:=cA encI_Condition1 (oA encI_Condition1)
def Ffp_R (r : Bool) : V × List V:=(B (r),[])
noncomputable def Ffp_entS (slf_Ffp : (Condition × Condition)→Option Bool) : Ent:=entT [false,false] Ffp_A Ffp_R slf_Ffp
theorem Ffp_FS (slf_Ffp : (Condition × Condition)→Option Bool) {x} {r} (h : slf_Ffp x=some r) : (Ffp_entS slf_Ffp).F (Ffp_A x)=some (Ffp_R r):=entT_F (cA_inj encI_Condition1_inj (oA_inj encI_Condition1_inj)) h
def Ffr_A : ((List Condition) × (List Condition))→List V:=cA (slE encI_Condition) (oA (slE encI_Condition))
def Ffr_R (r : Bool) : V × List V:=(B (r),[])
noncomputable def Ffr_ent (slf_Ffp : (Condition × Condition)→Option Bool) : Ent:=entT [false,false] Ffr_A Ffr_R fun x=>Ffr slf_Ffp x.1 x.2
theorem Ffr_F (slf_Ffp : (Condition × Condition)→Option Bool) {a_1 : List Condition} {b_2 : List Condition} {r} (h : Ffr slf_Ffp a_1 b_2=some r) : (Ffr_ent slf_Ffp).F (Ffr_A (a_1,b_2))=some (Ffr_R r):=entT_F (cA_inj (isl_inj encI_Condition_inj) (oA_inj (isl_inj encI_Condition_inj))) h
noncomputable def Ffr_c : Code:=bodyOf Tryd.f42
noncomputable def Ffr_E (slf_Ffp : (Condition × Condition)→Option Bool) : Env:=mkE Tryd.prog [(12,(Ffp_entS slf_Ffp))]
def Ffr_Q (slf_Ffp : (Condition × Condition)→Option Bool) (x : (List Condition) × (List Condition)) (r : Bool) : St→Prop:=QF (Ffr_E slf_Ffp) Tryd.f42 [false,false] (Ffr_A x) (Ffr_R r)
theorem Ffr_la_run (slf_Ffp : (Condition × Condition)→Option Bool) (a_1 : List Condition) (b_2 : List Condition)  {Q : St→Prop} {K : List It} (hK : noD K=true) : ∀ (x3 : Int) (y : Bool ⊕ Unit),Ffr_la slf_Ffp a_1 b_2 x3=some y→(∀ r',y=.inl r'→∀ st,Ffr_Q slf_Ffp (a_1,b_2) r' st→Q st)→(∀ u : Unit,y=.inr u→Run (Ffr_E slf_Ffp) 0 Q K (sT 27 [] [] 1))→Run (Ffr_E slf_Ffp) 0 Q (.code (cL (cL (cR (cL (cR (cR Ffr_c)))))) :: .lp (cL (cL (cR (cL (cR (cR Ffr_c)))))) :: .blk 0 :: K) (sT 27 [(0,.isl false ((a_1).map encI_Condition)),(1,.isl false ((b_2).map encI_Condition)),(5,I (x3))] [] 1):=by
 refine fix_indP (Ffr_la_fin slf_Ffp a_1 b_2) ?_
 intro self ih x3 y h hr hn
 unfold Ffr_la_F at h
 refine cq 5 [11,12] [I (x3),.isl false ((a_1).map encI_Condition)] 33 ?_
 refine oq 49 (I ((len a_1))) rfl (e_len rfl rfl rfl (l_isl rfl)) ?_
 refine cq 2 [14] [B ((decide (x3 < (len a_1))))] 65 ?_
 refine sq h (fun h=>?_) (fun h=>?_)
 · refine aq 1 ?_
   refine aq 3 ?_
   refine s_draw [0,0,3,7,0,0,48,112,255,511] rfl (by decide +kernel) ?_
   refine dk 2 [18,17] [I (x3),.isl false ((a_1).map encI_Condition)] ?_
   obtain ⟨e4,he4,h⟩:=bS h
   refine dq [] [] (.iptr (.agg [I (e4.Op),str (e4.Name),I (e4.Day),.isl false ((e4.Parts).map encI_Condition)]) 0) rfl (e_indexAddr rfl rfl rfl (ix_islE rfl rfl (encI_Condition_eq e4) rfl he4)) ?_
   refine dq [] [] (.agg [I (e4.Op),str (e4.Name),I (e4.Day),.isl false ((e4.Parts).map encI_Condition)]) rfl (e_ld rfl rfl) ?_
   refine dk 2 [22,21] [I (x3),.isl false ((b_2).map encI_Condition)] ?_
   obtain ⟨e5,he5,h⟩:=bS h
   refine dq [] [] (.iptr (.agg [I (e5.Op),str (e5.Name),I (e5.Day),.isl false ((e5.Parts).map encI_Condition)]) 0) rfl (e_indexAddr rfl rfl rfl (ix_islE rfl rfl (encI_Condition_eq e5) rfl he5)) ?_
   refine dq [] [] (.agg [I (e5.Op),str (e5.Name),I (e5.Day),.isl false ((e5.Parts).map encI_Condition)]) rfl (e_ld rfl rfl) ?_
   obtain ⟨r6,hr6,h⟩:=bS h
   refine dq [] [] (B (r6)) rfl (e_callV rfl rfl (call_P rfl rfl rfl (avS (shP rfl) (avS (shP rfl) (avN))) (Ffp_FS slf_Ffp hr6) (.inr rfl) (bl_n) rfl rfl rfl)) ?_ (w_callO rfl rfl rfl rfl (avS (shP rfl) (avS (shP rfl) (avN))) (Ffp_FS slf_Ffp hr6) (.inr rfl) rfl)
   refine dk 1 [26] [B ((!r6))] ?_
   refine de 225 rfl rfl ?_
   refine sq h (fun h=>?_) (fun h=>?_)
   · refine cq 4 [4] [B (false)] 241 ?_
     exact s_ret rfl (hr _ (Option.some.inj h).symm _ ⟨_,fin (vs:=[B (false)]) rfl (absE (absorb_plain rfl) (absEN)) rfl (ou_f (ou_f (ou_n))),kl_n⟩)
   · refine aq 1 ?_
     refine cq 6 [5] [I ((w64 (x3 + 1)))] 273 ?_
     refine s_lp ?_
     exact rf [0,1,5] [] (ih _ _ h hr hn :)
 · refine aq 1 ?_
   exact rf [] [] (hn _ (Option.some.inj h).symm :) (hk:=hK)
theorem Ffr_run (slf_Ffp : (Condition × Condition)→Option Bool) (a_1 : List Condition) (b_2 : List Condition) (r : Bool) (h : Ffr slf_Ffp a_1 b_2=some r) : RunF (Ffr_E slf_Ffp) Tryd.f42 [false,false] 0 (Ffr_A (a_1,b_2)) (Ffr_R r):=by
 show Run _ _ (Ffr_Q slf_Ffp (a_1,b_2) r) [.code Ffr_c] _
 refine rin (n:=27) [(0,.isl false ((a_1).map encI_Condition)),(1,.isl false ((b_2).map encI_Condition))] [] 1 (by kernel_rfl) (by kernel_rfl) (by kernel_rfl) rfl ?_
 unfold Ffr at h
 refine cq 8 [6] [.isl false ((a_1).map encI_Condition)] 33 ?_
 refine oq 49 (I ((len a_1))) rfl (e_len rfl rfl rfl (l_isl rfl)) ?_
 refine cq 1 [8] [.isl false ((b_2).map encI_Condition)] 65 ?_
 refine oq 81 (I ((len b_2))) rfl (e_len rfl rfl rfl (l_isl rfl)) ?_
 refine cq 2 [10] [B (((len a_1) != (len b_2)))] 97 ?_
 refine sq h (fun h=>?_) (fun h=>?_)
 · refine cq 4 [4] [B (false)] 113 ?_
   obtain rfl:=Option.some.inj h
   exact s_ret rfl ⟨_,fin (vs:=[B (false)]) rfl (absE (absorb_plain rfl) (absEN)) rfl (ou_f (ou_f (ou_n))),kl_n⟩
 · refine aq 1 ?_
   refine cq 6 [5] [I (0)] 113 ?_
   obtain ⟨y7,hy7,hy71,hy72⟩:=bJ h
   refine s_loop rfl ?_
   refine rf [0,1,5] [] (Ffr_la_run slf_Ffp a_1 b_2 rfl 0 _ hy7 (fun r' e st hq=>by rw [hy71 r' e] at hq; exact hq) fun u7 hu=>?_)
   replace h:=hy72 u7 hu
   refine cq 4 [4] [B (true)] 17 ?_
   obtain rfl:=Option.some.inj h
   exact s_ret rfl ⟨_,fin (vs:=[B (true)]) rfl (absE (absorb_plain rfl) (absEN)) rfl (ou_f (ou_f (ou_n))),kl_n⟩
theorem Ffr_good {G : Go.Ln.Ground} (slf_Ffp : (Condition × Condition)→Option Bool) (g_Ffp : Good Tryd.prog G 12 (Ffp_entS slf_Ffp)) : Good Tryd.prog G 42 (Ffr_ent slf_Ffp):=good_T (fnOf_good (gl_c g_Ffp (gl_n))) agree_mk (Checked.mixed Tryd.checked) Tryd.func42 (n:=2) (m:=0) ⟨rfl,rfl,by decide⟩ (fun _=>⟨rfl,rfl⟩) (fun a r h=>Ffr_run slf_Ffp a.1 a.2 r h)
noncomputable def Ffp_ent : Ent:=Ffp_entS (fixO Ffp_G)
theorem Ffp_F {a_1 : Condition} {b_2 : Condition} {r} (h : Ffp a_1 b_2=some r) : Ffp_ent.F (Ffp_A (a_1,b_2))=some (Ffp_R r):=Ffp_FS (fixO Ffp_G) h
noncomputable def Ffp_c : Code:=bodyOf Tryd.f12
noncomputable def Ffp_E (slf_Ffp : (Condition × Condition)→Option Bool) : Env:=mkE Tryd.prog [(42,(Ffr_ent slf_Ffp))]
def Ffp_Q (slf_Ffp : (Condition × Condition)→Option Bool) (x : Condition × Condition) (r : Bool) : St→Prop:=QF (Ffp_E slf_Ffp) Tryd.f12 [false,false] (Ffp_A x) (Ffp_R r)
theorem Ffp_run (slf_Ffp : (Condition × Condition)→Option Bool) (a_1 : Condition) (b_2 : Condition) (r : Bool) (h : Ffp_B slf_Ffp a_1 b_2=some r) : RunF (Ffp_E slf_Ffp) Tryd.f12 [false,false] 0 (Ffp_A (a_1,b_2)) (Ffp_R r):=by
 show Run _ _ (Ffp_Q slf_Ffp (a_1,b_2) r) [.code Ffp_c] _
 refine rin (n:=26) [(0,.agg [I (a_1.Op),str (a_1.Name),I (a_1.Day),.isl false ((a_1.Parts).map encI_Condition)]),(1,.agg [I (b_2.Op),str (b_2.Name),I (b_2.Day),.isl false ((b_2.Parts).map encI_Condition)])] [] 1 (by kernel_rfl) (by kernel_rfl) (by kernel_rfl) rfl ?_
 unfold Ffp_B at h
 refine ck 15 [2,3,9] [] [1,17] [] [.hp 1 0 [] 4 0 0,.hp 17 0 [] 4 0 0,B ((a_1.Op != b_2.Op))] [some ⟨0,4,[.agg [I (a_1.Op),str (a_1.Name),I (a_1.Day),.isl false ((a_1.Parts).map encI_Condition)]]⟩,some ⟨0,4,[.agg [I (b_2.Op),str (b_2.Name),I (b_2.Day),.isl false ((b_2.Parts).map encI_Condition)]]⟩] 129 (by kernel_rfl) ?_
 refine sq h (fun h=>?_) (fun h=>?_)
 · refine cq 4 [4] [B (false)] 145 ?_
   obtain rfl:=Option.some.inj h
   exact s_ret rfl ⟨_,fin (vs:=[B (false)]) rfl (absE (absorb_plain rfl) (absEN)) rfl (ou_f (ou_f (ou_n))),kl_n⟩
 · refine aq 1 ?_
   refine cq 9 [14] [B ((!(a_1.Name == b_2.Name)))] 209 ?_
   refine sq h (fun h=>?_) (fun h=>?_)
   · refine cq 4 [4] [B (false)] 225 ?_
     obtain rfl:=Option.some.inj h
     exact s_ret rfl ⟨_,fin (vs:=[B (false)]) rfl (absE (absorb_plain rfl) (absEN)) rfl (ou_f (ou_f (ou_n))),kl_n⟩
   · refine aq 1 ?_
     refine cq 9 [19] [B ((a_1.Day != b_2.Day))] 289 ?_
     refine sq h (fun h=>?_) (fun h=>?_)
     · refine cq 4 [4] [B (false)] 305 ?_
       obtain rfl:=Option.some.inj h
       exact s_ret rfl ⟨_,fin (vs:=[B (false)]) rfl (absE (absorb_plain rfl) (absEN)) rfl (ou_f (ou_f (ou_n))),kl_n⟩
     · refine aq 1 ?_
       refine cq 7 [21,23] [.isl false ((a_1.Parts).map encI_Condition),.isl false ((b_2.Parts).map encI_Condition)] 353 ?_
       obtain ⟨r3,hr3,h⟩:=bS h
       refine oq 369 (B (r3)) rfl (e_callV rfl rfl (call_P rfl rfl rfl (avS (shP rfl) (avS (shP rfl) (avN))) (Ffr_F slf_Ffp hr3) (.inr rfl) (bl_n) rfl rfl rfl)) ?_
       refine cq 2 [25] [B ((!r3))] 385 ?_
       refine sq h (fun h=>?_) (fun h=>?_)
       · refine cq 4 [4] [B (false)] 401 ?_
         obtain rfl:=Option.some.inj h
         exact s_ret rfl ⟨_,fin (vs:=[B (false)]) rfl (absE (absorb_plain rfl) (absEN)) rfl (ou_f (ou_f (ou_n))),kl_n⟩
       · refine aq 1 ?_
         refine cq 4 [4] [B (true)] 401 ?_
         obtain rfl:=Option.some.inj h
         exact s_ret rfl ⟨_,fin (vs:=[B (true)]) rfl (absE (absorb_plain rfl) (absEN)) rfl (ou_f (ou_f (ou_n))),kl_n⟩
theorem Ffp_good {G : Go.Ln.Ground} : Good Tryd.prog G 12 Ffp_ent:=good_rec fun slf_Ffp g_Ffp=>good_T (fnOf_good (gl_c (Ffr_good slf_Ffp g_Ffp) (gl_n))) agree_mk (Checked.mixed Tryd.checked) Tryd.func12 (n:=2) (m:=0) ⟨rfl,rfl,by decide⟩ (fun _=>⟨rfl,rfl⟩) (fun a r h=>Ffp_run slf_Ffp a.1 a.2 r h)
noncomputable def Ffq_ent : Ent:=Ffr_ent (fixO Ffp_G)
theorem Ffq_F {a_1 : List Condition} {b_2 : List Condition} {r} (h : Ffq a_1 b_2=some r) : Ffq_ent.F (Ffr_A (a_1,b_2))=some (Ffr_R r):=Ffr_F (fixO Ffp_G) h
theorem Ffq_good {G : Go.Ln.Ground} : Good Tryd.prog G 42 Ffq_ent:=Ffr_good (fixO Ffp_G) Ffp_good
def laws_FnExactConditionsMeet_A : (Condition × Condition)→List V:=cA encI_Condition1 (oA encI_Condition1)
def laws_FnExactConditionsMeet_R (r : Bool) : V × List V:=(B (r),[])
noncomputable def laws_FnExactConditionsMeet_ent : Ent:=entT [false,false] laws_FnExactConditionsMeet_A laws_FnExactConditionsMeet_R fun x=>laws_FnExactConditionsMeet x.1 x.2
theorem laws_FnExactConditionsMeet_F {aA_1 : Condition} {aB_2 : Condition} {r} (h : laws_FnExactConditionsMeet aA_1 aB_2=some r) : (laws_FnExactConditionsMeet_ent).F (laws_FnExactConditionsMeet_A (aA_1,aB_2))=some (laws_FnExactConditionsMeet_R r):=entT_F (cA_inj encI_Condition1_inj (oA_inj encI_Condition1_inj)) h
noncomputable def laws_FnExactConditionsMeet_c : Code:=bodyOf Tryd.f3
noncomputable def laws_FnExactConditionsMeet_E : Env:=mkE Tryd.prog [(8,Ffs_ent),(10,Ffv_ent),(9,Ffbv_ent),(11,Ffc_ent),(12,Ffp_ent)]
def laws_FnExactConditionsMeet_Q (x : Condition × Condition) (r : Bool) : St→Prop:=QF laws_FnExactConditionsMeet_E Tryd.f3 [false,false] (laws_FnExactConditionsMeet_A x) (laws_FnExactConditionsMeet_R r)
theorem laws_FnExactConditionsMeet_run (aA_1 : Condition) (aB_2 : Condition) (r : Bool) (h : laws_FnExactConditionsMeet aA_1 aB_2=some r) : RunF laws_FnExactConditionsMeet_E Tryd.f3 [false,false] 0 (laws_FnExactConditionsMeet_A (aA_1,aB_2)) (laws_FnExactConditionsMeet_R r):=by
 show Run _ _ (laws_FnExactConditionsMeet_Q (aA_1,aB_2) r) [.code laws_FnExactConditionsMeet_c] _
 refine rin (n:=58) [(0,encI_Condition1 aA_1),(1,encI_Condition1 aB_2)] [] 1 (by kernel_rfl) (by kernel_rfl) (by kernel_rfl) rfl ?_
 unfold laws_FnExactConditionsMeet at h
 refine ck 14 [2,3,12,13] [] [1,17] [] [.hp 1 0 [] 4 0 0,.hp 17 0 [] 4 0 0,encI_Condition1 aA_1,I (1048576)] [some ⟨0,4,[encI_Condition1 aA_1]⟩,some ⟨0,4,[encI_Condition1 aB_2]⟩] 97 (by kernel_rfl) ?_
 obtain ⟨r3,hr3,h⟩:=bS h
 refine oq 113 (I (r3)) rfl (e_callV rfl rfl (call_P rfl rfl rfl (avS (shP rfl) (avS (shP rfl) (avN))) (Ffs_F hr3) (.inr rfl) (bl_n) rfl rfl rfl)) ?_
 refine cq 8 [5,16] [I (r3),B ((decide (r3 < 0)))] 161 ?_
 refine sq h (fun h=>?_) (fun h=>?_)
 · refine cq 4 [4] [B (true)] 177 ?_
   obtain rfl:=Option.some.inj h
   exact s_ret rfl ⟨_,fin (vs:=[B (true)]) rfl (absE (absorb_plain rfl) (absEN)) rfl (ou_f (ou_f (ou_n))),kl_n⟩
 · refine aq 1 ?_
   refine cq 4 [17,18] [encI_Condition1 aB_2,I (r3)] 193 ?_
   obtain ⟨r4,hr4,h⟩:=bS h
   refine oq 209 (I (r4)) rfl (e_callV rfl rfl (call_P rfl rfl rfl (avS (shP rfl) (avS (shP rfl) (avN))) (Ffs_F hr4) (.inr rfl) (bl_n) rfl rfl rfl)) ?_
   refine ck 8 [21] [5] [] [] [B ((decide (r4 < 0)))] [] 257 (by kernel_rfl) ?_
   refine sq h (fun h=>?_) (fun h=>?_)
   · refine cq 4 [4] [B (true)] 273 ?_
     obtain rfl:=Option.some.inj h
     exact s_ret rfl ⟨_,fin (vs:=[B (true)]) rfl (absE (absorb_plain rfl) (absEN)) rfl (ou_f (ou_f (ou_n))),kl_n⟩
   · refine aq 1 ?_
     refine aq 1 ?_
     refine s_draw [0,1,0,7,15,31,63,63,127,511] rfl (by decide +kernel) ?_
     refine dq [1] [] (encI_Condition1 aA_1) rfl (e_ld rfl rfl) ?_
     obtain ⟨r5,hr5,h⟩:=bS h
     refine dq [] [] (.agg [I (r5.Op),str (r5.Name),I (r5.Day),.hs 273 0 [] 4 0 ((r5.Parts).map encO_Condition).length]) rfl (e_callV rfl rfl (call_P rfl rfl rfl (avS (shP rfl) (avN)) (Ffv_F hr5) (.inr rfl) (bl_n) rfl rfl rfl)) ?_ (w_callO rfl rfl rfl rfl (avS (shP rfl) (avN)) (Ffv_F hr5) (.inr rfl) rfl)
     refine dq [17] [] (encI_Condition1 aB_2) rfl (e_ld rfl rfl) ?_
     obtain ⟨r6,hr6,h⟩:=bS h
     refine dq [] [] (.agg [I (r6.Op),str (r6.Name),I (r6.Day),.hs 305 0 [] 4 0 ((r6.Parts).map encO_Condition).length]) rfl (e_callV rfl rfl (call_P rfl rfl rfl (avS (shP rfl) (avN)) (Ffv_F hr6) (.inr rfl) (bl_n) rfl rfl rfl)) ?_ (w_callO rfl rfl rfl rfl (avS (shP rfl) (avN)) (Ffv_F hr6) (.inr rfl) rfl)
     obtain ⟨r7,hr7,h⟩:=bS h
     refine dq [273,305] [] (.tup [B (r7.1),B (r7.2)]) rfl (e_callV rfl rfl (call_P rfl rfl rfl (avS (shA (shC (sh_p rfl) (shC (sh_p rfl) (shC (sh_p rfl) (shC (sh_hsM (f:=encO_Condition) (g:=encI_Condition) (xs:=r5.Parts) rfl rfl (imms_of encO_Condition_imm)) (shN)))))) (avS (shA (shC (sh_p rfl) (shC (sh_p rfl) (shC (sh_p rfl) (shC (sh_hsM (f:=encO_Condition) (g:=encI_Condition) (xs:=r6.Parts) rfl rfl (imms_of encO_Condition_imm)) (shN)))))) (avN))) (Ffbv_F hr7) (.inl (rfl)) (bl_n) rfl rfl rfl)) ?_ (w_callO rfl rfl rfl rfl (avS (shA (shC (sh_p rfl) (shC (sh_p rfl) (shC (sh_p rfl) (shC (sh_hsM (f:=encO_Condition) (g:=encI_Condition) (xs:=r5.Parts) rfl rfl (imms_of encO_Condition_imm)) (shN)))))) (avS (shA (shC (sh_p rfl) (shC (sh_p rfl) (shC (sh_p rfl) (shC (sh_hsM (f:=encO_Condition) (g:=encI_Condition) (xs:=r6.Parts) rfl rfl (imms_of encO_Condition_imm)) (shN)))))) (avN))) (Ffbv_F hr7) (.inl (rfl)) rfl)
     refine dk 5 [7,6,29,28,22] [B (r7.2),B (r7.1),B (r7.2),B (r7.1),.tup [B (r7.1),B (r7.2)]] ?_
     refine de 417 rfl rfl ?_
     refine cq 3 [30] [encI_Condition1 aA_1] 433 ?_
     obtain ⟨r8,hr8,h⟩:=bS h
     refine oq 449 (.agg [I (r8.Op),str (r8.Name),I (r8.Day),.hs 433 0 [] 4 0 ((r8.Parts).map encO_Condition).length]) rfl (e_callV rfl rfl (call_P rfl rfl rfl (avS (shP rfl) (avN)) (Ffv_F hr8) (.inr rfl) (bl_n) rfl rfl rfl)) ?_
     refine ck 1 [8] [] [449] [] [.hp 449 0 [] 4 0 0] [some ⟨0,4,[.agg [I (0),str ([]),I (0),.isl true []]]⟩] 465 (by kernel_rfl) ?_
     refine run_row 449 [.agg [I (0),str ([]),I (0),.usl 4 (([]).map encO_Condition)]] rfl rfl (cvs_c (cv_agg (cvs_c (.refl _) (cvs_c (.refl _) (cvs_c (.refl _) (cvs_c (.nil _) (cvs_n)))))) cvs_n) ?_
     refine o0 481 rfl rfl (e_st rfl rfl (st_at (path:=[]) (pl:=false) (e':=.agg [I (r8.Op),str (r8.Name),I (r8.Day),.usl 4 ((r8.Parts).map encO_Condition)]) (es2':=[.agg [I (r8.Op),str (r8.Name),I (r8.Day),.usl 4 ((r8.Parts).map encO_Condition)]]) rfl (absA (absC (abs_p rfl) (absC (abs_p rfl) (absC (abs_p rfl) (absC (abs_hs rfl rfl) (absN)))))) rfl rfl rfl (ra_n) rfl rfl rfl rfl rfl (sr_n) 2 rfl)) ?_
     refine cq 4 [32] [encI_Condition1 aB_2] 497 ?_
     obtain ⟨r9,hr9,h⟩:=bS h
     refine oq 513 (.agg [I (r9.Op),str (r9.Name),I (r9.Day),.hs 497 0 [] 4 0 ((r9.Parts).map encO_Condition).length]) rfl (e_callV rfl rfl (call_P rfl rfl rfl (avS (shP rfl) (avN)) (Ffv_F hr9) (.inr rfl) (bl_n) rfl rfl rfl)) ?_
     refine ck 1 [9] [] [513] [] [.hp 513 0 [] 4 0 0] [some ⟨0,4,[.agg [I (0),str ([]),I (0),.isl true []]]⟩] 529 (by kernel_rfl) ?_
     refine run_row 513 [.agg [I (0),str ([]),I (0),.usl 4 (([]).map encO_Condition)]] rfl rfl (cvs_c (cv_agg (cvs_c (.refl _) (cvs_c (.refl _) (cvs_c (.refl _) (cvs_c (.nil _) (cvs_n)))))) cvs_n) ?_
     refine o0 545 rfl rfl (e_st rfl rfl (st_at (path:=[]) (pl:=false) (e':=.agg [I (r9.Op),str (r9.Name),I (r9.Day),.usl 4 ((r9.Parts).map encO_Condition)]) (es2':=[.agg [I (r9.Op),str (r9.Name),I (r9.Day),.usl 4 ((r9.Parts).map encO_Condition)]]) rfl (absA (absC (abs_p rfl) (absC (abs_p rfl) (absC (abs_p rfl) (absC (abs_hs rfl rfl) (absN)))))) rfl rfl rfl (ra_n) rfl rfl rfl rfl rfl (sr_n) 2 rfl)) ?_
     refine cq 5 [35,36] [.agg [I (r8.Op),str (r8.Name),I (r8.Day),.hs 449 2 [(0,3)] 4 0 ((r8.Parts).map encO_Condition).length],.agg [I (r9.Op),str (r9.Name),I (r9.Day),.hs 513 2 [(0,3)] 4 0 ((r9.Parts).map encO_Condition).length]] 577 ?_
     obtain ⟨r10,hr10,h⟩:=bS h
     refine oq 593 (.tup [B (r10.1),B (r10.2)]) rfl (e_callV rfl rfl (call_P rfl rfl rfl (avS (shA (shC (sh_p rfl) (shC (sh_p rfl) (shC (sh_p rfl) (shC (sh_at (path:=[(0,3)]) rfl rfl (ra_c rfl rfl (ra_n)) rfl (imms_of (f:=encO_Condition) encO_Condition_imm)) (shN)))))) (avS (shA (shC (sh_p rfl) (shC (sh_p rfl) (shC (sh_p rfl) (shC (sh_at (path:=[(0,3)]) rfl rfl (ra_c rfl rfl (ra_n)) rfl (imms_of (f:=encO_Condition) encO_Condition_imm)) (shN)))))) (avN))) (Ffc_F hr10) (.inl (rfl)) (bl_n) rfl rfl rfl)) ?_
     refine cq 13 [11,43] [B (r10.2),B ((!(r10.1 == r7.1)))] 737 ?_
     obtain ⟨u11,hu11,h⟩:=lJ h
     have j11 : Run laws_FnExactConditionsMeet_E 0 (laws_FnExactConditionsMeet_Q (aA_1,aB_2) r) (.code (cR (cL (cR (cR (cR (cR (cR (cR (cR (cR (cR (cR laws_FnExactConditionsMeet_c)))))))))))) :: .code (cR (cR (cR (cR (cR (cR (cR (cR (cR (cR (cR laws_FnExactConditionsMeet_c))))))))))) :: []) (sT 58 [(2,.hp 1 0 [] 4 0 0),(3,.hp 2 0 [] 4 0 0),(8,.hp 3 0 [] 4 0 0),(9,.hp 4 0 [] 4 0 0),(47,B (u11))] [⟨0,4,[encI_Condition1 aA_1]⟩,⟨0,4,[encI_Condition1 aB_2]⟩,⟨0,4,[.agg [I (r8.Op),str (r8.Name),I (r8.Day),.usl 4 ((r8.Parts).map encO_Condition)]]⟩,⟨0,4,[.agg [I (r9.Op),str (r9.Name),I (r9.Day),.usl 4 ((r9.Parts).map encO_Condition)]]⟩] 5):=by
       refine sq h (fun h=>?_) (fun h=>?_)
       · refine cq 4 [4] [B (false)] 21 ?_
         obtain rfl:=Option.some.inj h
         exact s_ret rfl ⟨_,fin (vs:=[B (false)]) rfl (absE (absorb_plain rfl) (absEN)) rfl (ou_f (ou_f (ou_n))),kl_n⟩
       · refine aq 1 ?_
         refine aq 2 ?_
         refine s_draw [0,0,2,7,15] rfl (by decide +kernel) ?_
         refine dq [3] [] (.agg [I (r8.Op),str (r8.Name),I (r8.Day),.hs 3 0 [(0,3)] 4 0 ((r8.Parts).map encO_Condition).length]) rfl (e_ld rfl rfl) ?_
         refine dq [1] [] (encI_Condition1 aA_1) rfl (e_ld rfl rfl) ?_
         obtain ⟨r12,hr12,h⟩:=bS h
         refine dq [] [] (.agg [I (r12.Op),str (r12.Name),I (r12.Day),.hs 37 0 [] 4 0 ((r12.Parts).map encO_Condition).length]) rfl (e_callV rfl rfl (call_P rfl rfl rfl (avS (shP rfl) (avN)) (Ffv_F hr12) (.inr rfl) (bl_n) rfl rfl rfl)) ?_ (w_callO rfl rfl rfl rfl (avS (shP rfl) (avN)) (Ffv_F hr12) (.inr rfl) rfl)
         obtain ⟨r13,hr13,h⟩:=bS h
         refine dq [3,37] [] (B (r13)) rfl (e_callV rfl rfl (call_P rfl rfl rfl (avS (shA (shC (sh_p rfl) (shC (sh_p rfl) (shC (sh_p rfl) (shC (sh_at (path:=[(0,3)]) rfl rfl (ra_c rfl rfl (ra_n)) rfl (imms_of (f:=encO_Condition) encO_Condition_imm)) (shN)))))) (avS (shA (shC (sh_p rfl) (shC (sh_p rfl) (shC (sh_p rfl) (shC (sh_hsM (f:=encO_Condition) (g:=encI_Condition) (xs:=r12.Parts) rfl rfl (imms_of encO_Condition_imm)) (shN)))))) (avN))) (Ffp_F hr13) (.inl (rfl)) (bl_n) rfl rfl rfl)) ?_ (w_callO rfl rfl rfl rfl (avS (shA (shC (sh_p rfl) (shC (sh_p rfl) (shC (sh_p rfl) (shC (sh_at (path:=[(0,3)]) rfl rfl (ra_c rfl rfl (ra_n)) rfl (imms_of (f:=encO_Condition) encO_Condition_imm)) (shN)))))) (avS (shA (shC (sh_p rfl) (shC (sh_p rfl) (shC (sh_p rfl) (shC (sh_hsM (f:=encO_Condition) (g:=encI_Condition) (xs:=r12.Parts) rfl rfl (imms_of encO_Condition_imm)) (shN)))))) (avN))) (Ffp_F hr13) (.inl (rfl)) rfl)
         refine dk 1 [52] [B ((!r13))] ?_
         refine de 85 rfl rfl ?_
         refine sq h (fun h=>?_) (fun h=>?_)
         · refine cq 4 [4] [B (false)] 101 ?_
           obtain rfl:=Option.some.inj h
           exact s_ret rfl ⟨_,fin (vs:=[B (false)]) rfl (absE (absorb_plain rfl) (absEN)) rfl (ou_f (ou_f (ou_n))),kl_n⟩
         · refine aq 1 ?_
           refine aq 2 ?_
           refine s_draw [0,0,2,7,15] rfl (by decide +kernel) ?_
           refine dq [4] [] (.agg [I (r9.Op),str (r9.Name),I (r9.Day),.hs 4 0 [(0,3)] 4 0 ((r9.Parts).map encO_Condition).length]) rfl (e_ld rfl rfl) ?_
           refine dq [2] [] (encI_Condition1 aB_2) rfl (e_ld rfl rfl) ?_
           obtain ⟨r14,hr14,h⟩:=bS h
           refine dq [] [] (.agg [I (r14.Op),str (r14.Name),I (r14.Day),.hs 117 0 [] 4 0 ((r14.Parts).map encO_Condition).length]) rfl (e_callV rfl rfl (call_P rfl rfl rfl (avS (shP rfl) (avN)) (Ffv_F hr14) (.inr rfl) (bl_n) rfl rfl rfl)) ?_ (w_callO rfl rfl rfl rfl (avS (shP rfl) (avN)) (Ffv_F hr14) (.inr rfl) rfl)
           obtain ⟨r15,hr15,h⟩:=bS h
           refine dq [4,117] [] (B (r15)) rfl (e_callV rfl rfl (call_P rfl rfl rfl (avS (shA (shC (sh_p rfl) (shC (sh_p rfl) (shC (sh_p rfl) (shC (sh_at (path:=[(0,3)]) rfl rfl (ra_c rfl rfl (ra_n)) rfl (imms_of (f:=encO_Condition) encO_Condition_imm)) (shN)))))) (avS (shA (shC (sh_p rfl) (shC (sh_p rfl) (shC (sh_p rfl) (shC (sh_hsM (f:=encO_Condition) (g:=encI_Condition) (xs:=r14.Parts) rfl rfl (imms_of encO_Condition_imm)) (shN)))))) (avN))) (Ffp_F hr15) (.inl (rfl)) (bl_n) rfl rfl rfl)) ?_ (w_callO rfl rfl rfl rfl (avS (shA (shC (sh_p rfl) (shC (sh_p rfl) (shC (sh_p rfl) (shC (sh_at (path:=[(0,3)]) rfl rfl (ra_c rfl rfl (ra_n)) rfl (imms_of (f:=encO_Condition) encO_Condition_imm)) (shN)))))) (avS (shA (shC (sh_p rfl) (shC (sh_p rfl) (shC (sh_p rfl) (shC (sh_hsM (f:=encO_Condition) (g:=encI_Condition) (xs:=r14.Parts) rfl rfl (imms_of encO_Condition_imm)) (shN)))))) (avN))) (Ffp_F hr15) (.inl (rfl)) rfl)
           refine dk 1 [57] [B ((!r15))] ?_
           refine de 165 rfl rfl ?_
           refine sq h (fun h=>?_) (fun h=>?_)
           · refine cq 4 [4] [B (false)] 181 ?_
             obtain rfl:=Option.some.inj h
             exact s_ret rfl ⟨_,fin (vs:=[B (false)]) rfl (absE (absorb_plain rfl) (absEN)) rfl (ou_f (ou_f (ou_n))),kl_n⟩
           · refine aq 1 ?_
             refine cq 4 [4] [B (true)] 181 ?_
             obtain rfl:=Option.some.inj h
             exact s_ret rfl ⟨_,fin (vs:=[B (true)]) rfl (absE (absorb_plain rfl) (absEN)) rfl (ou_f (ou_f (ou_n))),kl_n⟩
     replace h:=hu11
     clear hu11
     refine sp 43 h rfl (fun h=>?_) (fun h=>?_)
     · refine cq 5 [47] [B (true)] 801 ?_
       subst h
       exact rf [2,3,8,9,47] [1,17,449,513] (j11 :)
     · refine cq 5 [47] [B ((!(r10.2 == r7.2)))] 801 ?_
       subst h
       exact rf [2,3,8,9,47] [1,17,449,513] (j11 :)
theorem laws_FnExactConditionsMeet_good {G : Go.Ln.Ground} : Good Tryd.prog G 3 laws_FnExactConditionsMeet_ent:=good_T (fnOf_good (gl_c Ffs_good (gl_c Ffv_good (gl_c Ffbv_good (gl_c Ffc_good (gl_c Ffp_good (gl_n))))))) agree_mk (Checked.mixed Tryd.checked) Tryd.func3 (n:=2) (m:=0) ⟨rfl,rfl,by decide⟩ (fun _=>⟨rfl,rfl⟩) (fun a r h=>laws_FnExactConditionsMeet_run a.1 a.2 r h)
end Go.Ln
