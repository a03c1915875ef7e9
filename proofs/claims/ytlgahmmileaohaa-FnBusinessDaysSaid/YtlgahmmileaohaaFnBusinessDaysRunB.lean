/-
  Each function of the program computes its plain function.
-/
import Derived.Test.YtlgahmmileaohaaFnBusinessDaysRunA
set_option maxHeartbeats 4000000
set_option linter.unusedVariables false
set_option linter.unusedSimpArgs false
set_option maxRecDepth 100000
namespace Go.Ln
open Go Go.Proofs
theorem Ffbe_run (data_8 : List Int) (a_9 : Int) (b_10 : Int) (pivot_11 : Int) (r : Int × (List Int)) (h : Ffbe data_8 a_9 b_10 pivot_11=some r) : RunF Ffbe_E Try.f91 [true,false,false,false] 1 (Ffbe_A (data_8,a_9,b_10,pivot_11)) (Ffbe_R r):=by
 show Run _ _ (Ffbe_Q (data_8,a_9,b_10,pivot_11) r) [.code Ffbe_c] _
 refine rin (n:=84) [(0,.hs 1 0 [] 1 0 ((data_8).map I).length),(1,I (a_9)),(2,I (b_10)),(3,I (pivot_11))] [(1,some ⟨0,1,(data_8).map I⟩)] 2 (by kernel_rfl) (by kernel_rfl) (by kernel_rfl) rfl ?_
 unfold Ffbe at h
 refine cq 5 [] [] 18 ?_
 refine s_draw [0,0,0,0,0,0,48,112,0,0,768,1792,4083,8179,16383,32767] rfl (by decide +kernel) ?_
 refine dk 6 [16,15,14,13,12,11] [I (pivot_11),.hs 1 0 [] 1 0 ((data_8).map I).length,I (pivot_11),.hs 1 0 [] 1 0 ((data_8).map I).length,I (a_9),.hs 1 0 [] 1 0 ((data_8).map I).length] ?_
 obtain ⟨e5,he5,h⟩:=bS h
 refine dq [1] [] (.hp 1 0 [] 1 (0 + Int.toNat (pivot_11)) 0) rfl (e_indexAddr rfl rfl rfl (ix_hsM (f:=I) (xs:=data_8) rfl rfl rfl he5)) ?_
 refine dq [1] [] (I (e5)) rfl (e_ld rfl (ld_at (path:=[]) rfl rfl rfl (ra_n) (get_map (f:=I) (xs:=data_8) he5) rfl rfl rfl)) ?_
 refine dk 2 [20,19] [I (a_9),.hs 1 0 [] 1 0 ((data_8).map I).length] ?_
 obtain ⟨e6,he6,h⟩:=bS h
 refine dq [1] [] (.hp 1 0 [] 1 (0 + Int.toNat (a_9)) 0) rfl (e_indexAddr rfl rfl rfl (ix_hsM (f:=I) (xs:=data_8) rfl rfl rfl he6)) ?_
 refine dq [1] [] (I (e6)) rfl (e_ld rfl (ld_at (path:=[]) rfl rfl rfl (ra_n) (get_map (f:=I) (xs:=data_8) he6) rfl rfl rfl)) ?_
 obtain ⟨e7,he7,h⟩:=bS h
 refine dq [1] [] (.hp 1 0 [] 1 (0 + Int.toNat (a_9)) 0) rfl (e_indexAddr rfl rfl rfl (ix_hsM (f:=I) (xs:=data_8) rfl rfl rfl he7)) ?_
 refine dz [1] [1] rfl (e_st rfl rfl (st_at (path:=[]) (pl:=true) (e':=I (e5)) (es2':=((setI data_8 a_9 e5)).map I) rfl (absorb_plain rfl) rfl rfl rfl (ra_n) (get_map (f:=I) (xs:=data_8) he7) rfl rfl rfl (set_map (f:=I) (xs:=data_8) (y:=e5)) (sr_n) 0 rfl)) ?_
 try rw [← len_setM (f:=I) (xs:=data_8) (i:=a_9) (z:=e5)]
 obtain ⟨e10,he10,h⟩:=bS h
 refine dq [1] [] (.hp 1 0 [] 1 (0 + Int.toNat (pivot_11)) 0) rfl (e_indexAddr rfl rfl rfl (ix_hsM (f:=I) (xs:=(setI data_8 a_9 e5)) rfl rfl rfl he10)) ?_
 refine dz [1] [1] rfl (e_st rfl rfl (st_at (path:=[]) (pl:=true) (e':=I (e6)) (es2':=((setI (setI data_8 a_9 e5) pivot_11 e6)).map I) rfl (absorb_plain rfl) rfl rfl rfl (ra_n) (get_map (f:=I) (xs:=(setI data_8 a_9 e5)) he10) rfl rfl rfl (set_map (f:=I) (xs:=(setI data_8 a_9 e5)) (y:=e6)) (sr_n) 0 rfl)) ?_
 try rw [← len_setM (f:=I) (xs:=(setI data_8 a_9 e5)) (i:=pivot_11) (z:=e6)]
 refine de 274 rfl rfl ?_
 refine cq 11 [9,10] [I ((w64 (a_9 + 1))),I ((w64 (b_10 - 1)))] 370 ?_
 obtain ⟨y36,hy36,hy361,hy362⟩:=bJ h
 refine s_loop rfl ?_
 refine rf [0,1,9,10] [1] (Ffbe_la_run data_8 a_9 b_10 pivot_11 rfl ((w64 (a_9 + 1)),(w64 (b_10 - 1)),(setI (setI data_8 a_9 e5) pivot_11 e6)) _ hy36 (fun r' e st hq=>by rw [hy361 r' e] at hq; exact hq) fun u36 hu=>?_)
 replace h:=hy362 u36 hu
 refine cq 5 [8] [I (u36.1)] 34 ?_
 obtain ⟨g37,h⟩:=gG h
 obtain rfl:=Option.some.inj h
 exact s_ret rfl ⟨_,fin (vs:=[I (u36.1)]) rfl (absE (absorb_plain rfl) (absEN)) rfl (ou_1 rfl (oc_hsG (f:=I) (xs:=u36.2) (by simpa using g37) rfl) (ou_f (ou_f (ou_f (ou_n))))),kl_c (kl_n)⟩
theorem Ffbe_good {G : Go.Ln.Ground} : Good Try.prog G 91 Ffbe_ent:=good_T (fnOf_good (gl_c Ffa_good (gl_n))) agree_mk (Checked.mixed Try.checked) Try.func91 (n:=4) (m:=1) ⟨rfl,rfl,by decide⟩ (fun _=>⟨rfl,rfl⟩) (fun a r h=>Ffbe_run a.1 a.2.1 a.2.2.1 a.2.2.2 r h)
def Ffbf_A : ((List Int) × Int × Int × Int)→List V:=cA (usE 1 I) (cA I (cA I (oA I)))
def Ffbf_R (r : Int × Bool × (List Int)) : V × List V:=(.tup [I (r.1),B (r.2.1)],[.usl 1 ((r.2.2).map I)])
noncomputable def Ffbf_ent : Ent:=entT [true,false,false,false] Ffbf_A Ffbf_R fun x=>Ffbf x.1 x.2.1 x.2.2.1 x.2.2.2
theorem Ffbf_F {data_8 : List Int} {a_9 : Int} {b_10 : Int} {pivot_11 : Int} {r} (h : Ffbf data_8 a_9 b_10 pivot_11=some r) : (Ffbf_ent).F (Ffbf_A (data_8,a_9,b_10,pivot_11))=some (Ffbf_R r):=entT_F (cA_inj (usl_inj I_inj) (cA_inj I_inj (cA_inj I_inj (oA_inj I_inj)))) h
noncomputable def Ffbf_c : Code:=bodyOf Try.f92
noncomputable abbrev Ffbf_ka : Code:=cL (cL (cL (cR (cR (cR Ffbf_c)))))
noncomputable abbrev Ffbf_kb : Code:=cL (cL (cL (cR (cR (cR (cR Ffbf_c))))))
noncomputable abbrev Ffbf_kc : Code:=cL (cL (cL (cR (cR (cR (cR (cR (cR (cR (cR (cR Ffbf_c)))))))))))
noncomputable abbrev Ffbf_kd : Code:=cL (cL (cL (cL Ffbf_kc)))
noncomputable abbrev Ffbf_ke : Code:=cL (cL (cL (cR (cL Ffbf_kc))))
noncomputable def Ffbf_E : Env:=mkE Try.prog [(90,Ffa_ent)]
def Ffbf_Q (x : (List Int) × Int × Int × Int) (r : Int × Bool × (List Int)) : St→Prop:=QF Ffbf_E Try.f92 [true,false,false,false] (Ffbf_A x) (Ffbf_R r)
theorem Ffbf_la_run (data_8 : List Int) (a_9 : Int) (b_10 : Int) (pivot_11 : Int) (e5 : Int) (e6 : Int) {Q : St→Prop} {K : List It} (hK : noD K=true) : ∀ (x14 : Int) (y : (Int × Bool × (List Int)) ⊕ (Int × Int)),Ffbf_la data_8 a_9 b_10 pivot_11 e5 e6 x14=some y→(∀ r',y=.inl r'→∀ st,Ffbf_Q (data_8,a_9,b_10,pivot_11) r' st→Q st)→(∀ u : Int × Int,y=.inr u→Run Ffbf_E 1 Q K (sT 168 [(0,.hs 1 0 [] 1 0 (((setI (setI data_8 a_9 e5) pivot_11 e6)).map I).length),(1,I (a_9)),(10,I (u.1)),(11,I (u.2))] [⟨0,1,((setI (setI data_8 a_9 e5) pivot_11 e6)).map I⟩] 2))→Run Ffbf_E 1 Q (.code Ffbf_ka :: .lp Ffbf_ka :: .blk 0 :: K) (sT 168 [(0,.hs 1 0 [] 1 0 (((setI (setI data_8 a_9 e5) pivot_11 e6)).map I).length),(1,I (a_9)),(10,I (x14)),(11,I ((w64 (b_10 - 1))))] [⟨0,1,((setI (setI data_8 a_9 e5) pivot_11 e6)).map I⟩] 2):=by
 refine fix_indP (Ffbf_la_fin data_8 a_9 b_10 pivot_11 e5 e6) ?_
 intro self ih x14 y h hr hn
 unfold Ffbf_la_F at h
 refine aq 2 ?_
 refine s_draw [0,0,3,7,15,15,63,127,15,15,783,1807,4095,8191] rfl (by decide +kernel) ?_
 refine dk 4 [33,32,31,30] [B ((decide (x14 ≤ (w64 (b_10 - 1))))),B ((decide (x14 ≤ (w64 (b_10 - 1))))),I ((w64 (b_10 - 1))),I (x14)] ?_
 obtain ⟨y15,hy15,hy151,hy152⟩:=bL h
 have j15 : ∀ u15,y15=.inr u15→Run Ffbf_E 1 Q (.code (cR (cL Ffbf_ka)) :: .code (cR Ffbf_ka) :: .lp Ffbf_ka :: .blk 0 :: K) (sT 168 [(0,.hs 1 0 [] 1 0 (((setI (setI data_8 a_9 e5) pivot_11 e6)).map I).length),(1,I (a_9)),(10,I (x14)),(11,I ((w64 (b_10 - 1)))),(43,B (u15))] [⟨0,1,((setI (setI data_8 a_9 e5) pivot_11 e6)).map I⟩] 2):=by
   intro u15 hu
   replace h:=hy152 u15 hu
   refine sq h (fun h=>?_) (fun h=>?_)
   · refine aq 1 ?_
     refine cq 7 [10] [I ((w64 (x14 + 1)))] 50 ?_
     refine s_lp ?_
     exact rf [0,1,10,11] [1] (ih _ _ h hr hn :)
   · refine aq 1 ?_
     exact rf [0,1,10,11] [1] (hn _ (Option.some.inj h).symm :) (hk:=hK)
 have r15 : ∀ r',y15=.inl r'→∀ st,Ffbf_Q (data_8,a_9,b_10,pivot_11) r' st→Q st:=fun r' e st hq=>hr r' (hy151 r' e) st hq
 replace h:=hy15
 refine sp 33 h rfl (fun h=>?_) (fun h=>?_)
 · refine dk 2 [35,34] [I (x14),.hs 1 0 [] 1 0 (((setI (setI data_8 a_9 e5) pivot_11 e6)).map I).length] ?_
   obtain ⟨e16,he16,h⟩:=bS h
   refine dy [1] [] (.hp 1 0 [] 1 (0 + Int.toNat (x14)) 0) rfl (e_indexAddr rfl rfl rfl (ix_hsM (f:=I) (xs:=(setI (setI data_8 a_9 e5) pivot_11 e6)) rfl rfl rfl he16)) ?_
   refine dy [1] [] (I (e16)) rfl (e_ld rfl (ld_at (path:=[]) rfl rfl rfl (ra_n) (get_map (f:=I) (xs:=(setI (setI data_8 a_9 e5) pivot_11 e6)) he16) rfl rfl rfl)) ?_
   refine dk 2 [39,38] [I (a_9),.hs 1 0 [] 1 0 (((setI (setI data_8 a_9 e5) pivot_11 e6)).map I).length] ?_
   obtain ⟨e17,he17,h⟩:=bS h
   refine dy [1] [] (.hp 1 0 [] 1 (0 + Int.toNat (a_9)) 0) rfl (e_indexAddr rfl rfl rfl (ix_hsM (f:=I) (xs:=(setI (setI data_8 a_9 e5) pivot_11 e6)) rfl rfl rfl he17)) ?_
   refine dy [1] [] (I (e17)) rfl (e_ld rfl (ld_at (path:=[]) rfl rfl rfl (ra_n) (get_map (f:=I) (xs:=(setI (setI data_8 a_9 e5) pivot_11 e6)) he17) rfl rfl rfl)) ?_
   obtain ⟨r18,hr18,h⟩:=bS h
   refine dy [] [] (B (r18)) rfl (e_callV rfl rfl (call_P rfl rfl rfl (avS (shP rfl) (avS (shP rfl) (avN))) (Ffa_F hr18) (.inr rfl) (bl_n) rfl rfl rfl)) ?_ (w_callO rfl rfl rfl rfl (avS (shP rfl) (avS (shP rfl) (avN))) (Ffa_F hr18) (.inr rfl) rfl)
   refine dk 1 [43] [B (r18)] ?_
   refine de 226 rfl rfl ?_
   exact rf [0,1,10,11,43] [1] (j15 _ (Option.some.inj h).symm :)
 · refine dk 10 [43,42,41,40,39,38,37,36,35,34] [B (false),.und,.und,.und,.und,.und,.und,.und,.und,.und] ?_
   refine de 226 rfl rfl ?_
   exact rf [0,1,10,11,43] [1] (j15 _ (Option.some.inj h).symm :)
theorem Ffbf_lb_run (data_8 : List Int) (a_9 : Int) (b_10 : Int) (pivot_11 : Int) (u19 : Int × Int) (e5 : Int) (e6 : Int) {Q : St→Prop} {K : List It} (hK : noD K=true) : ∀ (x20 : Int) (y : (Int × Bool × (List Int)) ⊕ Int),Ffbf_lb data_8 a_9 b_10 pivot_11 u19 e5 e6 x20=some y→(∀ r',y=.inl r'→∀ st,Ffbf_Q (data_8,a_9,b_10,pivot_11) r' st→Q st)→(∀ u : Int,y=.inr u→Run Ffbf_E 1 Q K (sT 168 [(0,.hs 1 0 [] 1 0 (((setI (setI data_8 a_9 e5) pivot_11 e6)).map I).length),(1,I (a_9)),(10,I (u19.1)),(11,I (u))] [⟨0,1,((setI (setI data_8 a_9 e5) pivot_11 e6)).map I⟩] 2))→Run Ffbf_E 1 Q (.code Ffbf_kb :: .lp Ffbf_kb :: .blk 2 :: K) (sT 168 [(0,.hs 1 0 [] 1 0 (((setI (setI data_8 a_9 e5) pivot_11 e6)).map I).length),(1,I (a_9)),(10,I (u19.1)),(11,I (x20))] [⟨0,1,((setI (setI data_8 a_9 e5) pivot_11 e6)).map I⟩] 2):=by
 refine fix_indP (Ffbf_lb_fin data_8 a_9 b_10 pivot_11 u19 e5 e6) ?_
 intro self ih x20 y h hr hn
 unfold Ffbf_lb_F at h
 refine aq 2 ?_
 refine s_draw [0,0,3,7,15,15,63,127,15,15,783,1807,4095,8191,16383] rfl (by decide +kernel) ?_
 refine dk 4 [49,48,47,46] [B ((decide (u19.1 ≤ x20))),B ((decide (u19.1 ≤ x20))),I (x20),I (u19.1)] ?_
 obtain ⟨y21,hy21,hy211,hy212⟩:=bL h
 have j21 : ∀ u21,y21=.inr u21→Run Ffbf_E 1 Q (.code (cR (cL Ffbf_kb)) :: .code (cR Ffbf_kb) :: .lp Ffbf_kb :: .blk 2 :: K) (sT 168 [(0,.hs 1 0 [] 1 0 (((setI (setI data_8 a_9 e5) pivot_11 e6)).map I).length),(1,I (a_9)),(10,I (u19.1)),(11,I (x20)),(60,B (u21))] [⟨0,1,((setI (setI data_8 a_9 e5) pivot_11 e6)).map I⟩] 2):=by
   intro u21 hu
   replace h:=hy212 u21 hu
   refine sq h (fun h=>?_) (fun h=>?_)
   · refine aq 1 ?_
     refine cq 7 [11] [I ((w64 (x20 - 1)))] 50 ?_
     refine s_lp ?_
     exact rf [0,1,10,11] [1] (ih _ _ h hr hn :)
   · refine aq 1 ?_
     exact rf [0,1,10,11] [1] (hn _ (Option.some.inj h).symm :) (hk:=hK)
 have r21 : ∀ r',y21=.inl r'→∀ st,Ffbf_Q (data_8,a_9,b_10,pivot_11) r' st→Q st:=fun r' e st hq=>hr r' (hy211 r' e) st hq
 replace h:=hy21
 refine sp 49 h rfl (fun h=>?_) (fun h=>?_)
 · refine dk 2 [51,50] [I (x20),.hs 1 0 [] 1 0 (((setI (setI data_8 a_9 e5) pivot_11 e6)).map I).length] ?_
   obtain ⟨e22,he22,h⟩:=bS h
   refine dy [1] [] (.hp 1 0 [] 1 (0 + Int.toNat (x20)) 0) rfl (e_indexAddr rfl rfl rfl (ix_hsM (f:=I) (xs:=(setI (setI data_8 a_9 e5) pivot_11 e6)) rfl rfl rfl he22)) ?_
   refine dy [1] [] (I (e22)) rfl (e_ld rfl (ld_at (path:=[]) rfl rfl rfl (ra_n) (get_map (f:=I) (xs:=(setI (setI data_8 a_9 e5) pivot_11 e6)) he22) rfl rfl rfl)) ?_
   refine dk 2 [55,54] [I (a_9),.hs 1 0 [] 1 0 (((setI (setI data_8 a_9 e5) pivot_11 e6)).map I).length] ?_
   obtain ⟨e23,he23,h⟩:=bS h
   refine dy [1] [] (.hp 1 0 [] 1 (0 + Int.toNat (a_9)) 0) rfl (e_indexAddr rfl rfl rfl (ix_hsM (f:=I) (xs:=(setI (setI data_8 a_9 e5) pivot_11 e6)) rfl rfl rfl he23)) ?_
   refine dy [1] [] (I (e23)) rfl (e_ld rfl (ld_at (path:=[]) rfl rfl rfl (ra_n) (get_map (f:=I) (xs:=(setI (setI data_8 a_9 e5) pivot_11 e6)) he23) rfl rfl rfl)) ?_
   obtain ⟨r24,hr24,h⟩:=bS h
   refine dy [] [] (B (r24)) rfl (e_callV rfl rfl (call_P rfl rfl rfl (avS (shP rfl) (avS (shP rfl) (avN))) (Ffa_F hr24) (.inr rfl) (bl_n) rfl rfl rfl)) ?_ (w_callO rfl rfl rfl rfl (avS (shP rfl) (avS (shP rfl) (avN))) (Ffa_F hr24) (.inr rfl) rfl)
   refine dk 2 [60,59] [B ((!r24)),B ((!r24))] ?_
   refine de 242 rfl rfl ?_
   exact rf [0,1,10,11,60] [1] (j21 _ (Option.some.inj h).symm :)
 · refine dk 11 [60,59,58,57,56,55,54,53,52,51,50] [B (false),.und,.und,.und,.und,.und,.und,.und,.und,.und,.und] ?_
   refine de 242 rfl rfl ?_
   exact rf [0,1,10,11,60] [1] (j21 _ (Option.some.inj h).symm :)
theorem Ffbf_ld_run (data_8 : List Int) (a_9 : Int) (b_10 : Int) (pivot_11 : Int) (x45 : Int × Int × (List Int)) {Q : St→Prop} {K : List It} (hK : noD K=true) : ∀ (x46 : Int) (y : (Int × Bool × (List Int)) ⊕ Int),Ffbf_ld data_8 a_9 b_10 pivot_11 x45 x46=some y→(∀ r',y=.inl r'→∀ st,Ffbf_Q (data_8,a_9,b_10,pivot_11) r' st→Q st)→(∀ u : Int,y=.inr u→Run Ffbf_E 1 Q K (sT 168 [(0,.hs 1 0 [] 1 0 ((x45.2.2).map I).length),(1,I (a_9)),(10,I (u)),(11,I (x45.2.1))] [⟨0,1,(x45.2.2).map I⟩] 2))→Run Ffbf_E 1 Q (.code Ffbf_kd :: .lp Ffbf_kd :: .blk 6 :: K) (sT 168 [(0,.hs 1 0 [] 1 0 ((x45.2.2).map I).length),(1,I (a_9)),(10,I (x46)),(11,I (x45.2.1))] [⟨0,1,(x45.2.2).map I⟩] 2):=by
 refine fix_indP (Ffbf_ld_fin data_8 a_9 b_10 pivot_11 x45) ?_
 intro self ih x46 y h hr hn
 unfold Ffbf_ld_F at h
 refine aq 2 ?_
 refine s_draw [0,0,3,7,15,15,63,127,15,15,783,1807,4095,8191] rfl (by decide +kernel) ?_
 refine dk 4 [102,101,100,99] [B ((decide (x46 ≤ x45.2.1))),B ((decide (x46 ≤ x45.2.1))),I (x45.2.1),I (x46)] ?_
 obtain ⟨y47,hy47,hy471,hy472⟩:=bL h
 have j47 : ∀ u47,y47=.inr u47→Run Ffbf_E 1 Q (.code (cR (cL Ffbf_kd)) :: .code (cR Ffbf_kd) :: .lp Ffbf_kd :: .blk 6 :: K) (sT 168 [(0,.hs 1 0 [] 1 0 ((x45.2.2).map I).length),(1,I (a_9)),(10,I (x46)),(11,I (x45.2.1)),(112,B (u47))] [⟨0,1,(x45.2.2).map I⟩] 2):=by
   intro u47 hu
   replace h:=hy472 u47 hu
   refine sq h (fun h=>?_) (fun h=>?_)
   · refine aq 1 ?_
     refine cq 7 [10] [I ((w64 (x46 + 1)))] 50 ?_
     refine s_lp ?_
     exact rf [0,1,10,11] [1] (ih _ _ h hr hn :)
   · refine aq 1 ?_
     exact rf [0,1,10,11] [1] (hn _ (Option.some.inj h).symm :) (hk:=hK)
 have r47 : ∀ r',y47=.inl r'→∀ st,Ffbf_Q (data_8,a_9,b_10,pivot_11) r' st→Q st:=fun r' e st hq=>hr r' (hy471 r' e) st hq
 replace h:=hy47
 refine sp 102 h rfl (fun h=>?_) (fun h=>?_)
 · refine dk 2 [104,103] [I (x46),.hs 1 0 [] 1 0 ((x45.2.2).map I).length] ?_
   obtain ⟨e48,he48,h⟩:=bS h
   refine dy [1] [] (.hp 1 0 [] 1 (0 + Int.toNat (x46)) 0) rfl (e_indexAddr rfl rfl rfl (ix_hsM (f:=I) (xs:=x45.2.2) rfl rfl rfl he48)) ?_
   refine dy [1] [] (I (e48)) rfl (e_ld rfl (ld_at (path:=[]) rfl rfl rfl (ra_n) (get_map (f:=I) (xs:=x45.2.2) he48) rfl rfl rfl)) ?_
   refine dk 2 [108,107] [I (a_9),.hs 1 0 [] 1 0 ((x45.2.2).map I).length] ?_
   obtain ⟨e49,he49,h⟩:=bS h
   refine dy [1] [] (.hp 1 0 [] 1 (0 + Int.toNat (a_9)) 0) rfl (e_indexAddr rfl rfl rfl (ix_hsM (f:=I) (xs:=x45.2.2) rfl rfl rfl he49)) ?_
   refine dy [1] [] (I (e49)) rfl (e_ld rfl (ld_at (path:=[]) rfl rfl rfl (ra_n) (get_map (f:=I) (xs:=x45.2.2) he49) rfl rfl rfl)) ?_
   obtain ⟨r50,hr50,h⟩:=bS h
   refine dy [] [] (B (r50)) rfl (e_callV rfl rfl (call_P rfl rfl rfl (avS (shP rfl) (avS (shP rfl) (avN))) (Ffa_F hr50) (.inr rfl) (bl_n) rfl rfl rfl)) ?_ (w_callO rfl rfl rfl rfl (avS (shP rfl) (avS (shP rfl) (avN))) (Ffa_F hr50) (.inr rfl) rfl)
   refine dk 1 [112] [B (r50)] ?_
   refine de 226 rfl rfl ?_
   exact rf [0,1,10,11,112] [1] (j47 _ (Option.some.inj h).symm :)
 · refine dk 10 [112,111,110,109,108,107,106,105,104,103] [B (false),.und,.und,.und,.und,.und,.und,.und,.und,.und] ?_
   refine de 226 rfl rfl ?_
   exact rf [0,1,10,11,112] [1] (j47 _ (Option.some.inj h).symm :)
theorem Ffbf_le_run (data_8 : List Int) (a_9 : Int) (b_10 : Int) (pivot_11 : Int) (u51 : Int) (x45 : Int × Int × (List Int)) {Q : St→Prop} {K : List It} (hK : noD K=true) : ∀ (x52 : Int) (y : (Int × Bool × (List Int)) ⊕ Int),Ffbf_le data_8 a_9 b_10 pivot_11 u51 x45 x52=some y→(∀ r',y=.inl r'→∀ st,Ffbf_Q (data_8,a_9,b_10,pivot_11) r' st→Q st)→(∀ u : Int,y=.inr u→Run Ffbf_E 1 Q K (sT 168 [(0,.hs 1 0 [] 1 0 ((x45.2.2).map I).length),(1,I (a_9)),(10,I (u51)),(11,I (u))] [⟨0,1,(x45.2.2).map I⟩] 2))→Run Ffbf_E 1 Q (.code Ffbf_ke :: .lp Ffbf_ke :: .blk 8 :: K) (sT 168 [(0,.hs 1 0 [] 1 0 ((x45.2.2).map I).length),(1,I (a_9)),(10,I (u51)),(11,I (x52))] [⟨0,1,(x45.2.2).map I⟩] 2):=by
 refine fix_indP (Ffbf_le_fin data_8 a_9 b_10 pivot_11 u51 x45) ?_
 intro self ih x52 y h hr hn
 unfold Ffbf_le_F at h
 refine aq 2 ?_
 refine s_draw [0,0,3,7,15,15,63,127,15,15,783,1807,4095,8191,16383] rfl (by decide +kernel) ?_
 refine dk 4 [118,117,116,115] [B ((decide (u51 ≤ x52))),B ((decide (u51 ≤ x52))),I (x52),I (u51)] ?_
 obtain ⟨y53,hy53,hy531,hy532⟩:=bL h
 have j53 : ∀ u53,y53=.inr u53→Run Ffbf_E 1 Q (.code (cR (cL Ffbf_ke)) :: .code (cR Ffbf_ke) :: .lp Ffbf_ke :: .blk 8 :: K) (sT 168 [(0,.hs 1 0 [] 1 0 ((x45.2.2).map I).length),(1,I (a_9)),(10,I (u51)),(11,I (x52)),(129,B (u53))] [⟨0,1,(x45.2.2).map I⟩] 2):=by
   intro u53 hu
   replace h:=hy532 u53 hu
   refine sq h (fun h=>?_) (fun h=>?_)
   · refine aq 1 ?_
     refine cq 7 [11] [I ((w64 (x52 - 1)))] 50 ?_
     refine s_lp ?_
     exact rf [0,1,10,11] [1] (ih _ _ h hr hn :)
   · refine aq 1 ?_
     exact rf [0,1,10,11] [1] (hn _ (Option.some.inj h).symm :) (hk:=hK)
 have r53 : ∀ r',y53=.inl r'→∀ st,Ffbf_Q (data_8,a_9,b_10,pivot_11) r' st→Q st:=fun r' e st hq=>hr r' (hy531 r' e) st hq
 replace h:=hy53
 refine sp 118 h rfl (fun h=>?_) (fun h=>?_)
 · refine dk 2 [120,119] [I (x52),.hs 1 0 [] 1 0 ((x45.2.2).map I).length] ?_
   obtain ⟨e54,he54,h⟩:=bS h
   refine dy [1] [] (.hp 1 0 [] 1 (0 + Int.toNat (x52)) 0) rfl (e_indexAddr rfl rfl rfl (ix_hsM (f:=I) (xs:=x45.2.2) rfl rfl rfl he54)) ?_
   refine dy [1] [] (I (e54)) rfl (e_ld rfl (ld_at (path:=[]) rfl rfl rfl (ra_n) (get_map (f:=I) (xs:=x45.2.2) he54) rfl rfl rfl)) ?_
   refine dk 2 [124,123] [I (a_9),.hs 1 0 [] 1 0 ((x45.2.2).map I).length] ?_
   obtain ⟨e55,he55,h⟩:=bS h
   refine dy [1] [] (.hp 1 0 [] 1 (0 + Int.toNat (a_9)) 0) rfl (e_indexAddr rfl rfl rfl (ix_hsM (f:=I) (xs:=x45.2.2) rfl rfl rfl he55)) ?_
   refine dy [1] [] (I (e55)) rfl (e_ld rfl (ld_at (path:=[]) rfl rfl rfl (ra_n) (get_map (f:=I) (xs:=x45.2.2) he55) rfl rfl rfl)) ?_
   obtain ⟨r56,hr56,h⟩:=bS h
   refine dy [] [] (B (r56)) rfl (e_callV rfl rfl (call_P rfl rfl rfl (avS (shP rfl) (avS (shP rfl) (avN))) (Ffa_F hr56) (.inr rfl) (bl_n) rfl rfl rfl)) ?_ (w_callO rfl rfl rfl rfl (avS (shP rfl) (avS (shP rfl) (avN))) (Ffa_F hr56) (.inr rfl) rfl)
   refine dk 2 [129,128] [B ((!r56)),B ((!r56))] ?_
   refine de 242 rfl rfl ?_
   exact rf [0,1,10,11,129] [1] (j53 _ (Option.some.inj h).symm :)
 · refine dk 11 [129,128,127,126,125,124,123,122,121,120,119] [B (false),.und,.und,.und,.und,.und,.und,.und,.und,.und,.und] ?_
   refine de 242 rfl rfl ?_
   exact rf [0,1,10,11,129] [1] (j53 _ (Option.some.inj h).symm :)
theorem Ffbf_lc_run (data_8 : List Int) (a_9 : Int) (b_10 : Int) (pivot_11 : Int)  {Q : St→Prop} {K : List It} (hK : noD K=true) : ∀ (x45 : Int × Int × (List Int)) (y : (Int × Bool × (List Int)) ⊕ (Int × (List Int))),Ffbf_lc data_8 a_9 b_10 pivot_11 x45=some y→(∀ r',y=.inl r'→∀ st,Ffbf_Q (data_8,a_9,b_10,pivot_11) r' st→Q st)→(∀ u : Int × (List Int),y=.inr u→Run Ffbf_E 1 Q K (sT 168 [(0,.hs 1 0 [] 1 0 ((u.2).map I).length),(1,I (a_9)),(11,I (u.1))] [⟨0,1,(u.2).map I⟩] 2))→Run Ffbf_E 1 Q (.code Ffbf_kc :: .lp Ffbf_kc :: .blk 4 :: K) (sT 168 [(0,.hs 1 0 [] 1 0 ((x45.2.2).map I).length),(1,I (a_9)),(10,I (x45.1)),(11,I (x45.2.1))] [⟨0,1,(x45.2.2).map I⟩] 2):=by
 refine fix_indP (Ffbf_lc_fin data_8 a_9 b_10 pivot_11) ?_
 intro self ih x45 y h hr hn
 unfold Ffbf_lc_F at h
 refine aq 3 ?_
 obtain ⟨y51,hy51,hy511,hy512⟩:=bL h
 refine s_loop rfl ?_
 refine rf [0,1,10,11] [1] (Ffbf_ld_run data_8 a_9 b_10 pivot_11 x45 rfl x45.1 _ hy51 (fun r' e st hq=>hr r' (hy511 r' e) st hq) fun u51 hu=>?_)
 replace h:=hy512 u51 hu
 refine aq 2 ?_
 obtain ⟨y57,hy57,hy571,hy572⟩:=bL h
 refine s_loop rfl ?_
 refine rf [0,1,10,11] [1] (Ffbf_le_run data_8 a_9 b_10 pivot_11 u51 x45 rfl x45.2.1 _ hy57 (fun r' e st hq=>hr r' (hy571 r' e) st hq) fun u57 hu=>?_)
 replace h:=hy572 u57 hu
 refine cq 7 [134] [B ((decide (u51 > u57)))] 50 ?_
 refine sq h (fun h=>?_) (fun h=>?_)
 · refine aq 1 ?_
   exact rf [0,1,11] [1] (hn _ (Option.some.inj h).symm :) (hk:=hK)
 · refine aq 1 ?_
   refine aq 1 ?_
   refine s_draw [0,0,0,0,0,0,48,112,0,0,768,1792,4083,8179,16383,32767] rfl (by decide +kernel) ?_
   refine dk 6 [140,139,138,137,136,135] [I (u57),.hs 1 0 [] 1 0 ((x45.2.2).map I).length,I (u57),.hs 1 0 [] 1 0 ((x45.2.2).map I).length,I (u51),.hs 1 0 [] 1 0 ((x45.2.2).map I).length] ?_
   obtain ⟨e58,he58,h⟩:=bS h
   refine dq [1] [] (.hp 1 0 [] 1 (0 + Int.toNat (u57)) 0) rfl (e_indexAddr rfl rfl rfl (ix_hsM (f:=I) (xs:=x45.2.2) rfl rfl rfl he58)) ?_
   refine dq [1] [] (I (e58)) rfl (e_ld rfl (ld_at (path:=[]) rfl rfl rfl (ra_n) (get_map (f:=I) (xs:=x45.2.2) he58) rfl rfl rfl)) ?_
   refine dk 2 [144,143] [I (u51),.hs 1 0 [] 1 0 ((x45.2.2).map I).length] ?_
   obtain ⟨e59,he59,h⟩:=bS h
   refine dq [1] [] (.hp 1 0 [] 1 (0 + Int.toNat (u51)) 0) rfl (e_indexAddr rfl rfl rfl (ix_hsM (f:=I) (xs:=x45.2.2) rfl rfl rfl he59)) ?_
   refine dq [1] [] (I (e59)) rfl (e_ld rfl (ld_at (path:=[]) rfl rfl rfl (ra_n) (get_map (f:=I) (xs:=x45.2.2) he59) rfl rfl rfl)) ?_
   obtain ⟨e60,he60,h⟩:=bS h
   refine dq [1] [] (.hp 1 0 [] 1 (0 + Int.toNat (u51)) 0) rfl (e_indexAddr rfl rfl rfl (ix_hsM (f:=I) (xs:=x45.2.2) rfl rfl rfl he60)) ?_
   refine dz [1] [1] rfl (e_st rfl rfl (st_at (path:=[]) (pl:=true) (e':=I (e58)) (es2':=((setI x45.2.2 u51 e58)).map I) rfl (absorb_plain rfl) rfl rfl rfl (ra_n) (get_map (f:=I) (xs:=x45.2.2) he60) rfl rfl rfl (set_map (f:=I) (xs:=x45.2.2) (y:=e58)) (sr_n) 0 rfl)) ?_
   try rw [← len_setM (f:=I) (xs:=x45.2.2) (i:=u51) (z:=e58)]
   obtain ⟨e63,he63,h⟩:=bS h
   refine dq [1] [] (.hp 1 0 [] 1 (0 + Int.toNat (u57)) 0) rfl (e_indexAddr rfl rfl rfl (ix_hsM (f:=I) (xs:=(setI x45.2.2 u51 e58)) rfl rfl rfl he63)) ?_
   refine dz [1] [1] rfl (e_st rfl rfl (st_at (path:=[]) (pl:=true) (e':=I (e59)) (es2':=((setI (setI x45.2.2 u51 e58) u57 e59)).map I) rfl (absorb_plain rfl) rfl rfl rfl (ra_n) (get_map (f:=I) (xs:=(setI x45.2.2 u51 e58)) he63) rfl rfl rfl (set_map (f:=I) (xs:=(setI x45.2.2 u51 e58)) (y:=e59)) (sr_n) 0 rfl)) ?_
   try rw [← len_setM (f:=I) (xs:=(setI x45.2.2 u51 e58)) (i:=u57) (z:=e59)]
   refine de 306 rfl rfl ?_
   refine cq 12 [10,11] [I ((w64 (u51 + 1))),I ((w64 (u57 - 1)))] 402 ?_
   refine s_lp ?_
   exact rf [0,1,10,11] [1] (ih _ _ h hr hn :)
theorem Ffbf_run (data_8 : List Int) (a_9 : Int) (b_10 : Int) (pivot_11 : Int) (r : Int × Bool × (List Int)) (h : Ffbf data_8 a_9 b_10 pivot_11=some r) : RunF Ffbf_E Try.f92 [true,false,false,false] 1 (Ffbf_A (data_8,a_9,b_10,pivot_11)) (Ffbf_R r):=by
 show Run _ _ (Ffbf_Q (data_8,a_9,b_10,pivot_11) r) [.code Ffbf_c] _
 refine rin (n:=168) [(0,.hs 1 0 [] 1 0 ((data_8).map I).length),(1,I (a_9)),(2,I (b_10)),(3,I (pivot_11))] [(1,some ⟨0,1,(data_8).map I⟩)] 2 (by kernel_rfl) (by kernel_rfl) (by kernel_rfl) rfl ?_
 unfold Ffbf at h
 refine cq 6 [] [] 34 ?_
 refine s_draw [0,0,0,0,0,0,48,112,0,0,768,1792,4083,8179,16383,32767] rfl (by decide +kernel) ?_
 refine dk 6 [17,16,15,14,13,12] [I (pivot_11),.hs 1 0 [] 1 0 ((data_8).map I).length,I (pivot_11),.hs 1 0 [] 1 0 ((data_8).map I).length,I (a_9),.hs 1 0 [] 1 0 ((data_8).map I).length] ?_
 obtain ⟨e5,he5,h⟩:=bS h
 refine dq [1] [] (.hp 1 0 [] 1 (0 + Int.toNat (pivot_11)) 0) rfl (e_indexAddr rfl rfl rfl (ix_hsM (f:=I) (xs:=data_8) rfl rfl rfl he5)) ?_
 refine dq [1] [] (I (e5)) rfl (e_ld rfl (ld_at (path:=[]) rfl rfl rfl (ra_n) (get_map (f:=I) (xs:=data_8) he5) rfl rfl rfl)) ?_
 refine dk 2 [21,20] [I (a_9),.hs 1 0 [] 1 0 ((data_8).map I).length] ?_
 obtain ⟨e6,he6,h⟩:=bS h
 refine dq [1] [] (.hp 1 0 [] 1 (0 + Int.toNat (a_9)) 0) rfl (e_indexAddr rfl rfl rfl (ix_hsM (f:=I) (xs:=data_8) rfl rfl rfl he6)) ?_
 refine dq [1] [] (I (e6)) rfl (e_ld rfl (ld_at (path:=[]) rfl rfl rfl (ra_n) (get_map (f:=I) (xs:=data_8) he6) rfl rfl rfl)) ?_
 obtain ⟨e7,he7,h⟩:=bS h
 refine dq [1] [] (.hp 1 0 [] 1 (0 + Int.toNat (a_9)) 0) rfl (e_indexAddr rfl rfl rfl (ix_hsM (f:=I) (xs:=data_8) rfl rfl rfl he7)) ?_
 refine dz [1] [1] rfl (e_st rfl rfl (st_at (path:=[]) (pl:=true) (e':=I (e5)) (es2':=((setI data_8 a_9 e5)).map I) rfl (absorb_plain rfl) rfl rfl rfl (ra_n) (get_map (f:=I) (xs:=data_8) he7) rfl rfl rfl (set_map (f:=I) (xs:=data_8) (y:=e5)) (sr_n) 0 rfl)) ?_
 try rw [← len_setM (f:=I) (xs:=data_8) (i:=a_9) (z:=e5)]
 obtain ⟨e10,he10,h⟩:=bS h
 refine dq [1] [] (.hp 1 0 [] 1 (0 + Int.toNat (pivot_11)) 0) rfl (e_indexAddr rfl rfl rfl (ix_hsM (f:=I) (xs:=(setI data_8 a_9 e5)) rfl rfl rfl he10)) ?_
 refine dz [1] [1] rfl (e_st rfl rfl (st_at (path:=[]) (pl:=true) (e':=I (e6)) (es2':=((setI (setI data_8 a_9 e5) pivot_11 e6)).map I) rfl (absorb_plain rfl) rfl rfl rfl (ra_n) (get_map (f:=I) (xs:=(setI data_8 a_9 e5)) he10) rfl rfl rfl (set_map (f:=I) (xs:=(setI data_8 a_9 e5)) (y:=e6)) (sr_n) 0 rfl)) ?_
 try rw [← len_setM (f:=I) (xs:=(setI data_8 a_9 e5)) (i:=pivot_11) (z:=e6)]
 refine de 290 rfl rfl ?_
 refine cq 11 [10,11] [I ((w64 (a_9 + 1))),I ((w64 (b_10 - 1)))] 386 ?_
 obtain ⟨y19,hy19,hy191,hy192⟩:=bJ h
 refine s_loop rfl ?_
 refine rf [0,1,10,11] [1] (Ffbf_la_run data_8 a_9 b_10 pivot_11 e5 e6 rfl (w64 (a_9 + 1)) _ hy19 (fun r' e st hq=>by rw [hy191 r' e] at hq; exact hq) fun u19 hu=>?_)
 replace h:=hy192 u19 hu
 refine aq 2 ?_
 obtain ⟨y25,hy25,hy251,hy252⟩:=bJ h
 refine s_loop rfl ?_
 refine rf [0,1,10,11] [1] (Ffbf_lb_run data_8 a_9 b_10 pivot_11 u19 e5 e6 rfl u19.2 _ hy25 (fun r' e st hq=>by rw [hy251 r' e] at hq; exact hq) fun u25 hu=>?_)
 replace h:=hy252 u25 hu
 refine cq 7 [65] [B ((decide (u19.1 > u25)))] 50 ?_
 refine sq h (fun h=>?_) (fun h=>?_)
 · refine aq 1 ?_
   refine s_draw [0,0,0,0,0,0,48,112,0,0,768,1792,4083,8179,16383,32767] rfl (by decide +kernel) ?_
   refine dk 6 [71,70,69,68,67,66] [I (a_9),.hs 1 0 [] 1 0 (((setI (setI data_8 a_9 e5) pivot_11 e6)).map I).length,I (a_9),.hs 1 0 [] 1 0 (((setI (setI data_8 a_9 e5) pivot_11 e6)).map I).length,I (u25),.hs 1 0 [] 1 0 (((setI (setI data_8 a_9 e5) pivot_11 e6)).map I).length] ?_
   obtain ⟨e26,he26,h⟩:=bS h
   refine dq [1] [] (.hp 1 0 [] 1 (0 + Int.toNat (a_9)) 0) rfl (e_indexAddr rfl rfl rfl (ix_hsM (f:=I) (xs:=(setI (setI data_8 a_9 e5) pivot_11 e6)) rfl rfl rfl he26)) ?_
   refine dq [1] [] (I (e26)) rfl (e_ld rfl (ld_at (path:=[]) rfl rfl rfl (ra_n) (get_map (f:=I) (xs:=(setI (setI data_8 a_9 e5) pivot_11 e6)) he26) rfl rfl rfl)) ?_
   refine dk 2 [75,74] [I (u25),.hs 1 0 [] 1 0 (((setI (setI data_8 a_9 e5) pivot_11 e6)).map I).length] ?_
   obtain ⟨e27,he27,h⟩:=bS h
   refine dq [1] [] (.hp 1 0 [] 1 (0 + Int.toNat (u25)) 0) rfl (e_indexAddr rfl rfl rfl (ix_hsM (f:=I) (xs:=(setI (setI data_8 a_9 e5) pivot_11 e6)) rfl rfl rfl he27)) ?_
   refine dq [1] [] (I (e27)) rfl (e_ld rfl (ld_at (path:=[]) rfl rfl rfl (ra_n) (get_map (f:=I) (xs:=(setI (setI data_8 a_9 e5) pivot_11 e6)) he27) rfl rfl rfl)) ?_
   obtain ⟨e28,he28,h⟩:=bS h
   refine dq [1] [] (.hp 1 0 [] 1 (0 + Int.toNat (u25)) 0) rfl (e_indexAddr rfl rfl rfl (ix_hsM (f:=I) (xs:=(setI (setI data_8 a_9 e5) pivot_11 e6)) rfl rfl rfl he28)) ?_
   refine dz [1] [1] rfl (e_st rfl rfl (st_at (path:=[]) (pl:=true) (e':=I (e26)) (es2':=((setI (setI (setI data_8 a_9 e5) pivot_11 e6) u25 e26)).map I) rfl (absorb_plain rfl) rfl rfl rfl (ra_n) (get_map (f:=I) (xs:=(setI (setI data_8 a_9 e5) pivot_11 e6)) he28) rfl rfl rfl (set_map (f:=I) (xs:=(setI (setI data_8 a_9 e5) pivot_11 e6)) (y:=e26)) (sr_n) 0 rfl)) ?_
   try rw [← len_setM (f:=I) (xs:=(setI (setI data_8 a_9 e5) pivot_11 e6)) (i:=u25) (z:=e26)]
   obtain ⟨e31,he31,h⟩:=bS h
   refine dq [1] [] (.hp 1 0 [] 1 (0 + Int.toNat (a_9)) 0) rfl (e_indexAddr rfl rfl rfl (ix_hsM (f:=I) (xs:=(setI (setI (setI data_8 a_9 e5) pivot_11 e6) u25 e26)) rfl rfl rfl he31)) ?_
   refine dz [1] [1] rfl (e_st rfl rfl (st_at (path:=[]) (pl:=true) (e':=I (e27)) (es2':=((setI (setI (setI (setI data_8 a_9 e5) pivot_11 e6) u25 e26) a_9 e27)).map I) rfl (absorb_plain rfl) rfl rfl rfl (ra_n) (get_map (f:=I) (xs:=(setI (setI (setI data_8 a_9 e5) pivot_11 e6) u25 e26)) he31) rfl rfl rfl (set_map (f:=I) (xs:=(setI (setI (setI data_8 a_9 e5) pivot_11 e6) u25 e26)) (y:=e27)) (sr_n) 0 rfl)) ?_
   try rw [← len_setM (f:=I) (xs:=(setI (setI (setI data_8 a_9 e5) pivot_11 e6) u25 e26)) (i:=a_9) (z:=e27)]
   refine de 306 rfl rfl ?_
   refine cq 6 [8,9] [I (u25),B (true)] 354 ?_
   obtain ⟨g35,h⟩:=gG h
   obtain rfl:=Option.some.inj h
   exact s_ret rfl ⟨_,fin (vs:=[I (u25),B (true)]) rfl (absE (absorb_plain rfl) (absE (absorb_plain rfl) (absEN))) rfl (ou_1 rfl (oc_hsG (f:=I) (xs:=(setI (setI (setI (setI data_8 a_9 e5) pivot_11 e6) u25 e26) a_9 e27)) (by simpa using g35) rfl) (ou_f (ou_f (ou_f (ou_n))))),kl_c (kl_n)⟩
 · refine aq 1 ?_
   refine aq 1 ?_
   refine s_draw [0,0,0,0,0,0,48,112,0,0,768,1792,4083,8179,16383,32767] rfl (by decide +kernel) ?_
   refine dk 6 [86,85,84,83,82,81] [I (u25),.hs 1 0 [] 1 0 (((setI (setI data_8 a_9 e5) pivot_11 e6)).map I).length,I (u25),.hs 1 0 [] 1 0 (((setI (setI data_8 a_9 e5) pivot_11 e6)).map I).length,I (u19.1),.hs 1 0 [] 1 0 (((setI (setI data_8 a_9 e5) pivot_11 e6)).map I).length] ?_
   obtain ⟨e36,he36,h⟩:=bS h
   refine dq [1] [] (.hp 1 0 [] 1 (0 + Int.toNat (u25)) 0) rfl (e_indexAddr rfl rfl rfl (ix_hsM (f:=I) (xs:=(setI (setI data_8 a_9 e5) pivot_11 e6)) rfl rfl rfl he36)) ?_
   refine dq [1] [] (I (e36)) rfl (e_ld rfl (ld_at (path:=[]) rfl rfl rfl (ra_n) (get_map (f:=I) (xs:=(setI (setI data_8 a_9 e5) pivot_11 e6)) he36) rfl rfl rfl)) ?_
   refine dk 2 [90,89] [I (u19.1),.hs 1 0 [] 1 0 (((setI (setI data_8 a_9 e5) pivot_11 e6)).map I).length] ?_
   obtain ⟨e37,he37,h⟩:=bS h
   refine dq [1] [] (.hp 1 0 [] 1 (0 + Int.toNat (u19.1)) 0) rfl (e_indexAddr rfl rfl rfl (ix_hsM (f:=I) (xs:=(setI (setI data_8 a_9 e5) pivot_11 e6)) rfl rfl rfl he37)) ?_
   refine dq [1] [] (I (e37)) rfl (e_ld rfl (ld_at (path:=[]) rfl rfl rfl (ra_n) (get_map (f:=I) (xs:=(setI (setI data_8 a_9 e5) pivot_11 e6)) he37) rfl rfl rfl)) ?_
   obtain ⟨e38,he38,h⟩:=bS h
   refine dq [1] [] (.hp 1 0 [] 1 (0 + Int.toNat (u19.1)) 0) rfl (e_indexAddr rfl rfl rfl (ix_hsM (f:=I) (xs:=(setI (setI data_8 a_9 e5) pivot_11 e6)) rfl rfl rfl he38)) ?_
   refine dz [1] [1] rfl (e_st rfl rfl (st_at (path:=[]) (pl:=true) (e':=I (e36)) (es2':=((setI (setI (setI data_8 a_9 e5) pivot_11 e6) u19.1 e36)).map I) rfl (absorb_plain rfl) rfl rfl rfl (ra_n) (get_map (f:=I) (xs:=(setI (setI data_8 a_9 e5) pivot_11 e6)) he38) rfl rfl rfl (set_map (f:=I) (xs:=(setI (setI data_8 a_9 e5) pivot_11 e6)) (y:=e36)) (sr_n) 0 rfl)) ?_
   try rw [← len_setM (f:=I) (xs:=(setI (setI data_8 a_9 e5) pivot_11 e6)) (i:=u19.1) (z:=e36)]
   obtain ⟨e41,he41,h⟩:=bS h
   refine dq [1] [] (.hp 1 0 [] 1 (0 + Int.toNat (u25)) 0) rfl (e_indexAddr rfl rfl rfl (ix_hsM (f:=I) (xs:=(setI (setI (setI data_8 a_9 e5) pivot_11 e6) u19.1 e36)) rfl rfl rfl he41)) ?_
   refine dz [1] [1] rfl (e_st rfl rfl (st_at (path:=[]) (pl:=true) (e':=I (e37)) (es2':=((setI (setI (setI (setI data_8 a_9 e5) pivot_11 e6) u19.1 e36) u25 e37)).map I) rfl (absorb_plain rfl) rfl rfl rfl (ra_n) (get_map (f:=I) (xs:=(setI (setI (setI data_8 a_9 e5) pivot_11 e6) u19.1 e36)) he41) rfl rfl rfl (set_map (f:=I) (xs:=(setI (setI (setI data_8 a_9 e5) pivot_11 e6) u19.1 e36)) (y:=e37)) (sr_n) 0 rfl)) ?_
   try rw [← len_setM (f:=I) (xs:=(setI (setI (setI data_8 a_9 e5) pivot_11 e6) u19.1 e36)) (i:=u25) (z:=e37)]
   refine de 306 rfl rfl ?_
   refine cq 14 [10,11] [I ((w64 (u19.1 + 1))),I ((w64 (u25 - 1)))] 402 ?_
   obtain ⟨y67,hy67,hy671,hy672⟩:=bJ h
   refine s_loop rfl ?_
   refine rf [0,1,10,11] [1] (Ffbf_lc_run data_8 a_9 b_10 pivot_11 rfl ((w64 (u19.1 + 1)),(w64 (u25 - 1)),(setI (setI (setI (setI data_8 a_9 e5) pivot_11 e6) u19.1 e36) u25 e37)) _ hy67 (fun r' e st hq=>by rw [hy671 r' e] at hq; exact hq) fun u67 hu=>?_)
   replace h:=hy672 u67 hu
   refine aq 1 ?_
   refine s_draw [0,0,0,0,0,0,48,112,0,0,768,1792,4083,8179,16383,32767] rfl (by decide +kernel) ?_
   refine dk 6 [158,157,156,155,154,153] [I (a_9),.hs 1 0 [] 1 0 ((u67.2).map I).length,I (a_9),.hs 1 0 [] 1 0 ((u67.2).map I).length,I (u67.1),.hs 1 0 [] 1 0 ((u67.2).map I).length] ?_
   obtain ⟨e68,he68,h⟩:=bS h
   refine dq [1] [] (.hp 1 0 [] 1 (0 + Int.toNat (a_9)) 0) rfl (e_indexAddr rfl rfl rfl (ix_hsM (f:=I) (xs:=u67.2) rfl rfl rfl he68)) ?_
   refine dq [1] [] (I (e68)) rfl (e_ld rfl (ld_at (path:=[]) rfl rfl rfl (ra_n) (get_map (f:=I) (xs:=u67.2) he68) rfl rfl rfl)) ?_
   refine dk 2 [162,161] [I (u67.1),.hs 1 0 [] 1 0 ((u67.2).map I).length] ?_
   obtain ⟨e69,he69,h⟩:=bS h
   refine dq [1] [] (.hp 1 0 [] 1 (0 + Int.toNat (u67.1)) 0) rfl (e_indexAddr rfl rfl rfl (ix_hsM (f:=I) (xs:=u67.2) rfl rfl rfl he69)) ?_
   refine dq [1] [] (I (e69)) rfl (e_ld rfl (ld_at (path:=[]) rfl rfl rfl (ra_n) (get_map (f:=I) (xs:=u67.2) he69) rfl rfl rfl)) ?_
   obtain ⟨e70,he70,h⟩:=bS h
   refine dq [1] [] (.hp 1 0 [] 1 (0 + Int.toNat (u67.1)) 0) rfl (e_indexAddr rfl rfl rfl (ix_hsM (f:=I) (xs:=u67.2) rfl rfl rfl he70)) ?_
   refine dz [1] [1] rfl (e_st rfl rfl (st_at (path:=[]) (pl:=true) (e':=I (e68)) (es2':=((setI u67.2 u67.1 e68)).map I) rfl (absorb_plain rfl) rfl rfl rfl (ra_n) (get_map (f:=I) (xs:=u67.2) he70) rfl rfl rfl (set_map (f:=I) (xs:=u67.2) (y:=e68)) (sr_n) 0 rfl)) ?_
   try rw [← len_setM (f:=I) (xs:=u67.2) (i:=u67.1) (z:=e68)]
   obtain ⟨e73,he73,h⟩:=bS h
   refine dq [1] [] (.hp 1 0 [] 1 (0 + Int.toNat (a_9)) 0) rfl (e_indexAddr rfl rfl rfl (ix_hsM (f:=I) (xs:=(setI u67.2 u67.1 e68)) rfl rfl rfl he73)) ?_
   refine dz [1] [1] rfl (e_st rfl rfl (st_at (path:=[]) (pl:=true) (e':=I (e69)) (es2':=((setI (setI u67.2 u67.1 e68) a_9 e69)).map I) rfl (absorb_plain rfl) rfl rfl rfl (ra_n) (get_map (f:=I) (xs:=(setI u67.2 u67.1 e68)) he73) rfl rfl rfl (set_map (f:=I) (xs:=(setI u67.2 u67.1 e68)) (y:=e69)) (sr_n) 0 rfl)) ?_
   try rw [← len_setM (f:=I) (xs:=(setI u67.2 u67.1 e68)) (i:=a_9) (z:=e69)]
   refine de 258 rfl rfl ?_
   refine cq 6 [8,9] [I (u67.1),B (false)] 306 ?_
   obtain ⟨g77,h⟩:=gG h
   obtain rfl:=Option.some.inj h
   exact s_ret rfl ⟨_,fin (vs:=[I (u67.1),B (false)]) rfl (absE (absorb_plain rfl) (absE (absorb_plain rfl) (absEN))) rfl (ou_1 rfl (oc_hsG (f:=I) (xs:=(setI (setI u67.2 u67.1 e68) a_9 e69)) (by simpa using g77) rfl) (ou_f (ou_f (ou_f (ou_n))))),kl_c (kl_n)⟩
theorem Ffbf_good {G : Go.Ln.Ground} : Good Try.prog G 92 Ffbf_ent:=good_T (fnOf_good (gl_c Ffa_good (gl_n))) agree_mk (Checked.mixed Try.checked) Try.func92 (n:=4) (m:=1) ⟨rfl,rfl,by decide⟩ (fun _=>⟨rfl,rfl⟩) (fun a r h=>Ffbf_run a.1 a.2.1 a.2.2.1 a.2.2.2 r h)
def Ffbg_A : ((List Int) × Int × Int × Int)→List V:=cA (usE 1 I) (cA I (cA I (oA I)))
def Ffbg_R (r : (List Int)) : V × List V:=(.tup [],[.usl 1 ((r).map I)])
noncomputable def Ffbg_entS (slf_Ffbg : ((List Int) × Int × Int × Int)→Option ((List Int))) : Ent:=entT [true,false,false,false] Ffbg_A Ffbg_R slf_Ffbg
theorem Ffbg_FS (slf_Ffbg : ((List Int) × Int × Int × Int)→Option ((List Int))) {x} {r} (h : slf_Ffbg x=some r) : (Ffbg_entS slf_Ffbg).F (Ffbg_A x)=some (Ffbg_R r):=entT_F (cA_inj (usl_inj I_inj) (cA_inj I_inj (cA_inj I_inj (oA_inj I_inj)))) h
noncomputable def Ffbg_ent : Ent:=Ffbg_entS (fixO Ffbg_G)
theorem Ffbg_F {data_7 : List Int} {a_8 : Int} {b_9 : Int} {limit_10 : Int} {r} (h : Ffbg data_7 a_8 b_9 limit_10=some r) : Ffbg_ent.F (Ffbg_A (data_7,a_8,b_9,limit_10))=some (Ffbg_R r):=Ffbg_FS (fixO Ffbg_G) h
noncomputable def Ffbg_c : Code:=bodyOf Try.f81
noncomputable abbrev Ffbg_ka : Code:=cL (cL (cR (cR Ffbg_c)))
noncomputable abbrev Ffbg_kb : Code:=cR (cR (cR (cR (cR (cR (cR (cL Ffbg_ka)))))))
noncomputable abbrev Ffbg_kc : Code:=cR (cL (cR (cR (cR (cR (cR (cR (cL Ffbg_ka))))))))
noncomputable def Ffbg_E (slf_Ffbg : ((List Int) × Int × Int × Int)→Option ((List Int))) : Env:=mkE Try.prog [(84,Ffy_ent),(85,Ffx_ent),(87,Ffw_ent),(91,Ffbe_ent),(92,Ffbf_ent),(81,(Ffbg_entS slf_Ffbg)),(90,Ffa_ent),(89,Ffbd_ent),(88,Ffbh_ent),(86,Ffv_ent)]
def Ffbg_Q (slf_Ffbg : ((List Int) × Int × Int × Int)→Option ((List Int))) (x : (List Int) × Int × Int × Int) (r : (List Int)) : St→Prop:=QF (Ffbg_E slf_Ffbg) Try.f81 [true,false,false,false] (Ffbg_A x) (Ffbg_R r)
theorem Ffbg_la_run (slf_Ffbg : ((List Int) × Int × Int × Int)→Option ((List Int))) (data_7 : List Int) (a_8 : Int) (b_9 : Int) (limit_10 : Int)  {Q : St→Prop} {K : List It} (hK : noD K=true) : ∀ (x5 : Int × Int × Int × Bool × Bool × (List Int)) (y : ((List Int)) ⊕ Unit),Ffbg_la slf_Ffbg data_7 a_8 b_9 limit_10 x5=some y→(∀ r',y=.inl r'→∀ st,Ffbg_Q slf_Ffbg (data_7,a_8,b_9,limit_10) r' st→Q st)→(∀ u : Unit,y=.inr u→Run (Ffbg_E slf_Ffbg) 1 Q K (sT 134 [] [] 1))→Run (Ffbg_E slf_Ffbg) 1 Q (.code Ffbg_ka :: .lp Ffbg_ka :: .blk 0 :: K) (sT 134 [(0,.hs 1 0 [] 1 0 ((x5.2.2.2.2.2).map I).length),(1,I (x5.1)),(2,I (x5.2.1)),(3,I (x5.2.2.1)),(8,B (x5.2.2.2.1)),(9,B (x5.2.2.2.2.1))] [⟨0,1,(x5.2.2.2.2.2).map I⟩] 2):=by
 refine fix_indP (Ffbg_la_fin slf_Ffbg data_7 a_8 b_9 limit_10) ?_
 intro self ih x5 y h hr hn
 unfold Ffbg_la_F at h
 refine cq 14 [10,23] [I ((w64 (x5.2.1 - x5.1))),B ((decide ((w64 (x5.2.1 - x5.1)) ≤ 12)))] 98 ?_
 refine sq h (fun h=>?_) (fun h=>?_)
 · refine cq 5 [24,25,26] [.hs 1 0 [] 1 0 ((x5.2.2.2.2.2).map I).length,I (x5.1),I (x5.2.1)] 146 ?_
   obtain ⟨r6,hr6,h⟩:=bS h
   obtain ⟨g7,h⟩:=gG h
   refine oq 162 (.tup []) rfl (e_callV rfl rfl (call_P rfl rfl rfl (avO (hd1 rfl (hd_hs (path:=[]) rfl rfl (ra_n) rfl)) (avS (shP rfl) (avS (shP rfl) (avN)))) (Ffy_F hr6) (.inr rfl) (bl_c rfl rfl rfl rfl (bl_n)) rfl rfl rfl)) ?_
   try rw [len_eqM (f:=I) (xs:=x5.2.2.2.2.2) (ys:=r6) g7]
   refine aq 1 ?_
   obtain ⟨g8,h⟩:=gG h
   exact s_ret rfl (hr _ (Option.some.inj h).symm _ ⟨_,fin (vs:=[]) rfl (absEN) rfl (ou_1 rfl (oc_hsG (f:=I) (xs:=r6) (by simpa using g8) rfl) (ou_f (ou_f (ou_f (ou_n))))),kl_c (kl_n)⟩)
 · refine aq 1 ?_
   refine cq 6 [29] [B ((x5.2.2.1 == 0))] 130 ?_
   refine sq h (fun h=>?_) (fun h=>?_)
   · refine cq 5 [30,31,32] [.hs 1 0 [] 1 0 ((x5.2.2.2.2.2).map I).length,I (x5.1),I (x5.2.1)] 178 ?_
     obtain ⟨r9,hr9,h⟩:=bS h
     obtain ⟨g10,h⟩:=gG h
     refine oq 194 (.tup []) rfl (e_callV rfl rfl (call_P rfl rfl rfl (avO (hd1 rfl (hd_hs (path:=[]) rfl rfl (ra_n) rfl)) (avS (shP rfl) (avS (shP rfl) (avN)))) (Ffx_F hr9) (.inr rfl) (bl_c rfl rfl rfl rfl (bl_n)) rfl rfl rfl)) ?_
     try rw [len_eqM (f:=I) (xs:=x5.2.2.2.2.2) (ys:=r9) g10]
     refine aq 1 ?_
     obtain ⟨g11,h⟩:=gG h
     exact s_ret rfl (hr _ (Option.some.inj h).symm _ ⟨_,fin (vs:=[]) rfl (absEN) rfl (ou_1 rfl (oc_hsG (f:=I) (xs:=r9) (by simpa using g11) rfl) (ou_f (ou_f (ou_f (ou_n))))),kl_c (kl_n)⟩)
   · refine aq 1 ?_
     refine cq 6 [35] [B ((!x5.2.2.2.1))] 162 ?_
     obtain ⟨y12,hy12,hy121,hy122⟩:=bL h
     have j12 : ∀ u12,y12=.inr u12→Run (Ffbg_E slf_Ffbg) 1 Q (.code (cR (cR (cR (cR (cL Ffbg_ka))))) :: .blk 1 :: .lp Ffbg_ka :: .blk 0 :: K) (sT 134 [(0,.hs 1 0 [] 1 0 ((u12.2).map I).length),(1,I (x5.1)),(2,I (x5.2.1)),(3,I (u12.1)),(8,B (x5.2.2.2.1)),(9,B (x5.2.2.2.2.1)),(10,I ((w64 (x5.2.1 - x5.1))))] [⟨0,1,(u12.2).map I⟩] 2):=by
       intro u12 hu
       replace h:=hy122 u12 hu
       refine cq 5 [43,44,45] [.hs 1 0 [] 1 0 ((u12.2).map I).length,I (x5.1),I (x5.2.1)] 50 ?_
       obtain ⟨r13,hr13,h⟩:=bS h
       refine oq 66 (.tup [I (r13.1),I (r13.2)]) rfl (e_callV rfl rfl (call_P rfl rfl rfl (avS (sh1 rfl rfl (sh_hsM (f:=I) (g:=I) (xs:=u12.2) rfl rfl (imms_of I_imm))) (avS (shP rfl) (avS (shP rfl) (avN)))) (Ffw_F hr13) (.inl (rfl)) (bl_n) rfl rfl rfl)) ?_
       refine cq 12 [11,12,50] [I (r13.1),I (r13.2),B ((r13.2 == 2))] 178 ?_
       obtain ⟨y14,hy14,hy141,hy142⟩:=bL h
       have j14 : ∀ u14,y14=.inr u14→Run (Ffbg_E slf_Ffbg) 1 Q (.code (cR (cR (cR (cR (cR (cR (cL Ffbg_ka))))))) :: .blk 1 :: .lp Ffbg_ka :: .blk 0 :: K) (sT 134 [(0,.hs 1 0 [] 1 0 ((u14.2.2).map I).length),(1,I (x5.1)),(2,I (x5.2.1)),(3,I (u12.1)),(8,B (x5.2.2.2.1)),(9,B (x5.2.2.2.2.1)),(10,I ((w64 (x5.2.1 - x5.1)))),(11,I (u14.1)),(12,I (u14.2.1))] [⟨0,1,(u14.2.2).map I⟩] 2):=by
         intro u14 hu
         replace h:=hy142 u14 hu
         refine cq 5 [62] [B (x5.2.2.2.1)] 34 ?_
         obtain ⟨u15,hu15,h⟩:=lJ h
         have j15 : Run (Ffbg_E slf_Ffbg) 1 Q (.code Ffbg_kc :: .code Ffbg_kb :: .blk 1 :: .lp Ffbg_ka :: .blk 0 :: K) (sT 134 [(0,.hs 1 0 [] 1 0 ((u14.2.2).map I).length),(1,I (x5.1)),(2,I (x5.2.1)),(3,I (u12.1)),(8,B (x5.2.2.2.1)),(9,B (x5.2.2.2.2.1)),(10,I ((w64 (x5.2.1 - x5.1)))),(11,I (u14.1)),(68,B (u15))] [⟨0,1,(u14.2.2).map I⟩] 2):=by
           obtain ⟨y16,hy16,hy161,hy162⟩:=bL h
           have j16 : ∀ u16,y16=.inr u16→Run (Ffbg_E slf_Ffbg) 1 Q (.code Ffbg_kb :: .blk 1 :: .lp Ffbg_ka :: .blk 0 :: K) (sT 134 [(0,.hs 1 0 [] 1 0 ((u16).map I).length),(1,I (x5.1)),(2,I (x5.2.1)),(3,I (u12.1)),(8,B (x5.2.2.2.1)),(9,B (x5.2.2.2.2.1)),(10,I ((w64 (x5.2.1 - x5.1)))),(11,I (u14.1))] [⟨0,1,(u16).map I⟩] 2):=by
             intro u16 hu
             replace h:=hy162 u16 hu
             refine aq 2 ?_
             refine s_draw [0,1,3,7,7,23,63,127,7,7,775,1799,4095,8191,16383] rfl (by decide +kernel) ?_
             refine dk 3 [75,74,73] [B ((decide (x5.1 > 0))),B ((decide (x5.1 > 0))),I (x5.1)] ?_
             obtain ⟨y17,hy17,hy171,hy172⟩:=bL h
             have j17 : ∀ u17,y17=.inr u17→Run (Ffbg_E slf_Ffbg) 1 Q (.code (cR (cL Ffbg_kb)) :: .code (cR Ffbg_kb) :: .blk 1 :: .lp Ffbg_ka :: .blk 0 :: K) (sT 134 [(0,.hs 1 0 [] 1 0 ((u16).map I).length),(1,I (x5.1)),(2,I (x5.2.1)),(3,I (u12.1)),(8,B (x5.2.2.2.1)),(9,B (x5.2.2.2.2.1)),(10,I ((w64 (x5.2.1 - x5.1)))),(11,I (u14.1)),(87,B (u17))] [⟨0,1,(u16).map I⟩] 2):=by
               intro u17 hu
               replace h:=hy172 u17 hu
               refine sq h (fun h=>?_) (fun h=>?_)
               · refine cq 6 [88,89,90,91] [.hs 1 0 [] 1 0 ((u16).map I).length,I (x5.1),I (x5.2.1),I (u14.1)] 66 ?_
                 obtain ⟨r18,hr18,h⟩:=bS h
                 obtain ⟨g19,h⟩:=gG h
                 refine oq 82 (I (r18.1)) rfl (e_callV rfl rfl (call_P rfl rfl rfl (avO (hd1 rfl (hd_hs (path:=[]) rfl rfl (ra_n) rfl)) (avS (shP rfl) (avS (shP rfl) (avS (shP rfl) (avN))))) (Ffbe_F hr18) (.inr rfl) (bl_c rfl rfl rfl rfl (bl_n)) rfl rfl rfl)) ?_
                 try rw [len_eqM (f:=I) (xs:=u16) (ys:=r18.2) g19]
                 refine cq 8 [1] [I (r18.1)] 130 ?_
                 refine s_lp ?_
                 exact rf [0,1,2,3,8,9] [1] (ih _ _ h hr hn :)
               · refine aq 1 ?_
                 refine cq 6 [95,96,97,98] [.hs 1 0 [] 1 0 ((u16).map I).length,I (x5.1),I (x5.2.1),I (u14.1)] 66 ?_
                 obtain ⟨r20,hr20,h⟩:=bS h
                 obtain ⟨g21,h⟩:=gG h
                 refine oq 82 (.tup [I (r20.1),B (r20.2.1)]) rfl (e_callV rfl rfl (call_P rfl rfl rfl (avO (hd1 rfl (hd_hs (path:=[]) rfl rfl (ra_n) rfl)) (avS (shP rfl) (avS (shP rfl) (avS (shP rfl) (avN))))) (Ffbf_F hr20) (.inr rfl) (bl_c rfl rfl rfl rfl (bl_n)) rfl rfl rfl)) ?_
                 try rw [len_eqM (f:=I) (xs:=u16) (ys:=r20.2.2) g21]
                 refine cq 34 [9,14,16,17,18,113] [B (r20.2.1),I (r20.1),I ((w64 (r20.1 - x5.1))),I ((w64 (x5.2.1 - r20.1))),I ((w64 ((w64 (x5.2.1 - x5.1)).tdiv 8))),B ((decide ((w64 (r20.1 - x5.1)) < (w64 (x5.2.1 - r20.1)))))] 418 ?_
                 obtain ⟨y22,hy22,hy221,hy222⟩:=bL h
                 have j22 : ∀ u22,y22=.inr u22→Run (Ffbg_E slf_Ffbg) 1 Q (.blk 1 :: .lp Ffbg_ka :: .blk 0 :: K) (sT 134 [(0,.hs 1 0 [] 1 0 ((u22.2.2.2).map I).length),(1,I (u22.1)),(2,I (u22.2.1)),(3,I (u12.1)),(8,B (u22.2.2.1)),(9,B (r20.2.1))] [⟨0,1,(u22.2.2.2).map I⟩] 2):=by
                   intro u22 hu
                   replace h:=hy222 u22 hu
                   refine aq 1 ?_
                   refine s_lp ?_
                   exact rf [0,1,2,3,8,9] [1] (ih _ _ h hr hn :)
                 have r22 : ∀ r',y22=.inl r'→∀ st,Ffbg_Q slf_Ffbg (data_7,a_8,b_9,limit_10) r' st→Q st:=fun r' e st hq=>hr r' (hy221 r' e) st hq
                 replace h:=hy22
                 refine sq h (fun h=>?_) (fun h=>?_)
                 · refine cq 13 [8,117,118,119,120] [B ((decide ((w64 (r20.1 - x5.1)) ≥ (w64 ((w64 (x5.2.1 - x5.1)).tdiv 8))))),.hs 1 0 [] 1 0 ((r20.2.2).map I).length,I (x5.1),I (r20.1),I (u12.1)] 546 ?_
                   obtain ⟨r23,hr23,h⟩:=bS h
                   obtain ⟨g24,h⟩:=gG h
                   refine oq 562 (.tup []) rfl (e_callV rfl rfl (call_P rfl rfl rfl (avO (hd1 rfl (hd_hs (path:=[]) rfl rfl (ra_n) rfl)) (avS (shP rfl) (avS (shP rfl) (avS (shP rfl) (avN))))) (Ffbg_FS slf_Ffbg hr23) (.inr rfl) (bl_c rfl rfl rfl rfl (bl_n)) rfl rfl rfl)) ?_
                   try rw [len_eqM (f:=I) (xs:=r20.2.2) (ys:=r23) g24]
                   refine cq 6 [1] [I ((w64 (r20.1 + 1)))] 610 ?_
                   exact rf [0,1,2,3,8,9] [1] (j22 _ (Option.some.inj h).symm :)
                 · refine cq 14 [8,127,129,130,131] [B ((decide ((w64 (x5.2.1 - r20.1)) ≥ (w64 ((w64 (x5.2.1 - x5.1)).tdiv 8))))),.hs 1 0 [] 1 0 ((r20.2.2).map I).length,I ((w64 (r20.1 + 1))),I (x5.2.1),I (u12.1)] 562 ?_
                   obtain ⟨r25,hr25,h⟩:=bS h
                   obtain ⟨g26,h⟩:=gG h
                   refine oq 578 (.tup []) rfl (e_callV rfl rfl (call_P rfl rfl rfl (avO (hd1 rfl (hd_hs (path:=[]) rfl rfl (ra_n) rfl)) (avS (shP rfl) (avS (shP rfl) (avS (shP rfl) (avN))))) (Ffbg_FS slf_Ffbg hr25) (.inr rfl) (bl_c rfl rfl rfl rfl (bl_n)) rfl rfl rfl)) ?_
                   try rw [len_eqM (f:=I) (xs:=r20.2.2) (ys:=r25) g26]
                   refine cq 5 [2] [I (r20.1)] 610 ?_
                   exact rf [0,1,2,3,8,9] [1] (j22 _ (Option.some.inj h).symm :)
             have r17 : ∀ r',y17=.inl r'→∀ st,Ffbg_Q slf_Ffbg (data_7,a_8,b_9,limit_10) r' st→Q st:=fun r' e st hq=>hr r' (hy171 r' e) st hq
             replace h:=hy17
             refine sp 75 h rfl (fun h=>?_) (fun h=>?_)
             · refine dk 3 [78,77,76] [I ((w64 (x5.1 - 1))),I (x5.1),.hs 1 0 [] 1 0 ((u16).map I).length] ?_
               obtain ⟨e27,he27,h⟩:=bS h
               refine dy [1] [] (.hp 1 0 [] 1 (0 + Int.toNat ((w64 (x5.1 - 1)))) 0) rfl (e_indexAddr rfl rfl rfl (ix_hsM (f:=I) (xs:=u16) rfl rfl rfl he27)) ?_
               refine dy [1] [] (I (e27)) rfl (e_ld rfl (ld_at (path:=[]) rfl rfl rfl (ra_n) (get_map (f:=I) (xs:=u16) he27) rfl rfl rfl)) ?_
               refine dk 2 [82,81] [I (u14.1),.hs 1 0 [] 1 0 ((u16).map I).length] ?_
               obtain ⟨e28,he28,h⟩:=bS h
               refine dy [1] [] (.hp 1 0 [] 1 (0 + Int.toNat (u14.1)) 0) rfl (e_indexAddr rfl rfl rfl (ix_hsM (f:=I) (xs:=u16) rfl rfl rfl he28)) ?_
               refine dy [1] [] (I (e28)) rfl (e_ld rfl (ld_at (path:=[]) rfl rfl rfl (ra_n) (get_map (f:=I) (xs:=u16) he28) rfl rfl rfl)) ?_
               obtain ⟨r29,hr29,h⟩:=bS h
               refine dy [] [] (B (r29)) rfl (e_callV rfl rfl (call_P rfl rfl rfl (avS (shP rfl) (avS (shP rfl) (avN))) (Ffa_F hr29) (.inr rfl) (bl_n) rfl rfl rfl)) ?_ (w_callO rfl rfl rfl rfl (avS (shP rfl) (avS (shP rfl) (avN))) (Ffa_F hr29) (.inr rfl) rfl)
               refine dk 2 [87,86] [B ((!r29)),B ((!r29))] ?_
               refine de 242 rfl rfl ?_
               exact rf [0,1,2,3,8,9,10,11,87] [1] (j17 _ (Option.some.inj h).symm :)
             · refine dk 12 [87,86,85,84,83,82,81,80,79,78,77,76] [B (false),.und,.und,.und,.und,.und,.und,.und,.und,.und,.und,.und] ?_
               refine de 242 rfl rfl ?_
               exact rf [0,1,2,3,8,9,10,11,87] [1] (j17 _ (Option.some.inj h).symm :)
           have r16 : ∀ r',y16=.inl r'→∀ st,Ffbg_Q slf_Ffbg (data_7,a_8,b_9,limit_10) r' st→Q st:=fun r' e st hq=>hr r' (hy161 r' e) st hq
           replace h:=hy16
           refine sq h (fun h=>?_) (fun h=>?_)
           · refine cq 5 [69,70,71] [.hs 1 0 [] 1 0 ((u14.2.2).map I).length,I (x5.1),I (x5.2.1)] 50 ?_
             obtain ⟨r30,hr30,h⟩:=bS h
             obtain ⟨g31,h⟩:=gG h
             refine oq 66 (B (r30.1)) rfl (e_callV rfl rfl (call_P rfl rfl rfl (avO (hd1 rfl (hd_hs (path:=[]) rfl rfl (ra_n) rfl)) (avS (shP rfl) (avS (shP rfl) (avN)))) (Ffbd_F hr30) (.inr rfl) (bl_c rfl rfl rfl rfl (bl_n)) rfl rfl rfl)) ?_
             try rw [len_eqM (f:=I) (xs:=u14.2.2) (ys:=r30.2) g31]
             refine aq 1 ?_
             refine sq h (fun h=>?_) (fun h=>?_)
             · obtain ⟨g32,h⟩:=gG h
               exact s_ret rfl (r16 _ (Option.some.inj h).symm _ ⟨_,fin (vs:=[]) rfl (absEN) rfl (ou_1 rfl (oc_hsG (f:=I) (xs:=r30.2) (by simpa using g32) rfl) (ou_f (ou_f (ou_f (ou_n))))),kl_c (kl_n)⟩)
             · refine aq 1 ?_
               exact rf [0,1,2,3,8,9,10,11] [1] (j16 _ (Option.some.inj h).symm :)
           · refine aq 1 ?_
             exact rf [0,1,2,3,8,9,10,11] [1] (j16 _ (Option.some.inj h).symm :)
         replace h:=hu15
         clear hu15
         refine sp 62 h rfl (fun h=>?_) (fun h=>?_)
         · refine cq 3 [65] [B (x5.2.2.2.2.1)] 82 ?_
           obtain ⟨u33,hu33,h⟩:=lJ h
           have j33 : Run (Ffbg_E slf_Ffbg) 1 Q (.code Ffbg_kc :: .code Ffbg_kb :: .blk 1 :: .lp Ffbg_ka :: .blk 0 :: K) (sT 134 [(0,.hs 1 0 [] 1 0 ((u14.2.2).map I).length),(1,I (x5.1)),(2,I (x5.2.1)),(3,I (u12.1)),(8,B (x5.2.2.2.1)),(9,B (x5.2.2.2.2.1)),(10,I ((w64 (x5.2.1 - x5.1)))),(11,I (u14.1)),(68,B (u33))] [⟨0,1,(u14.2.2).map I⟩] 2):=by
             subst h
             exact rf [0,1,2,3,8,9,10,11,68] [1] (j15 :)
           replace h:=hu33
           clear hu33
           refine sp 65 h rfl (fun h=>?_) (fun h=>?_)
           · refine cq 4 [68] [B ((u14.2.1 == 1))] 130 ?_
             subst h
             exact rf [0,1,2,3,8,9,10,11,68] [1] (j33 :)
           · refine cq 4 [68] [B (false)] 130 ?_
             subst h
             exact rf [0,1,2,3,8,9,10,11,68] [1] (j33 :)
         · refine cq 7 [68] [B (false)] 130 ?_
           subst h
           exact rf [0,1,2,3,8,9,10,11,68] [1] (j15 :)
       have r14 : ∀ r',y14=.inl r'→∀ st,Ffbg_Q slf_Ffbg (data_7,a_8,b_9,limit_10) r' st→Q st:=fun r' e st hq=>hr r' (hy141 r' e) st hq
       replace h:=hy14
       refine sq h (fun h=>?_) (fun h=>?_)
       · refine cq 5 [51,52,53] [.hs 1 0 [] 1 0 ((u12.2).map I).length,I (x5.1),I (x5.2.1)] 226 ?_
         obtain ⟨r34,hr34,h⟩:=bS h
         obtain ⟨g35,h⟩:=gG h
         refine oq 242 (.tup []) rfl (e_callV rfl rfl (call_P rfl rfl rfl (avO (hd1 rfl (hd_hs (path:=[]) rfl rfl (ra_n) rfl)) (avS (shP rfl) (avS (shP rfl) (avN)))) (Ffbh_F hr34) (.inr rfl) (bl_c rfl rfl rfl rfl (bl_n)) rfl rfl rfl)) ?_
         try rw [len_eqM (f:=I) (xs:=u12.2) (ys:=r34) g35]
         refine cq 14 [11,12] [I ((w64 ((w64 (x5.2.1 - 1)) - (w64 (r13.1 - x5.1))))),I (1)] 370 ?_
         exact rf [0,1,2,3,8,9,10,11,12] [1] (j14 _ (Option.some.inj h).symm :)
       · refine aq 1 ?_
         exact rf [0,1,2,3,8,9,10,11,12] [1] (j14 _ (Option.some.inj h).symm :)
     have r12 : ∀ r',y12=.inl r'→∀ st,Ffbg_Q slf_Ffbg (data_7,a_8,b_9,limit_10) r' st→Q st:=fun r' e st hq=>hr r' (hy121 r' e) st hq
     replace h:=hy12
     refine sq h (fun h=>?_) (fun h=>?_)
     · refine cq 5 [36,37,38] [.hs 1 0 [] 1 0 ((x5.2.2.2.2.2).map I).length,I (x5.1),I (x5.2.1)] 210 ?_
       obtain ⟨r36,hr36,h⟩:=bS h
       obtain ⟨g37,h⟩:=gG h
       refine oq 226 (.tup []) rfl (e_callV rfl rfl (call_P rfl rfl rfl (avO (hd1 rfl (hd_hs (path:=[]) rfl rfl (ra_n) rfl)) (avS (shP rfl) (avS (shP rfl) (avN)))) (Ffv_F hr36) (.inr rfl) (bl_c rfl rfl rfl rfl (bl_n)) rfl rfl rfl)) ?_
       try rw [len_eqM (f:=I) (xs:=x5.2.2.2.2.2) (ys:=r36) g37]
       refine cq 6 [3] [I ((w64 (x5.2.2.1 - 1)))] 274 ?_
       exact rf [0,1,2,3,8,9,10] [1] (j12 _ (Option.some.inj h).symm :)
     · refine aq 1 ?_
       exact rf [0,1,2,3,8,9,10] [1] (j12 _ (Option.some.inj h).symm :)
theorem Ffbg_run (slf_Ffbg : ((List Int) × Int × Int × Int)→Option ((List Int))) (data_7 : List Int) (a_8 : Int) (b_9 : Int) (limit_10 : Int) (r : (List Int)) (h : Ffbg_B slf_Ffbg data_7 a_8 b_9 limit_10=some r) : RunF (Ffbg_E slf_Ffbg) Try.f81 [true,false,false,false] 1 (Ffbg_A (data_7,a_8,b_9,limit_10)) (Ffbg_R r):=by
 show Run _ _ (Ffbg_Q slf_Ffbg (data_7,a_8,b_9,limit_10) r) [.code Ffbg_c] _
 refine rin (n:=134) [(0,.hs 1 0 [] 1 0 ((data_7).map I).length),(1,I (a_8)),(2,I (b_9)),(3,I (limit_10))] [(1,some ⟨0,1,(data_7).map I⟩)] 2 (by kernel_rfl) (by kernel_rfl) (by kernel_rfl) rfl ?_
 unfold Ffbg_B at h
 refine cq 9 [8,9] [B (true),B (true)] 34 ?_
 obtain ⟨y38,hy38,hy381,hy382⟩:=bJ h
 refine s_loop rfl ?_
 refine rf [0,1,2,3,8,9] [1] (Ffbg_la_run slf_Ffbg data_7 a_8 b_9 limit_10 rfl (a_8,b_9,limit_10,true,true,data_7) _ hy38 (fun r' e st hq=>by rw [hy381 r' e] at hq; exact hq) fun u38 hu=>?_)
 replace h:=hy382 u38 hu
 cases h
theorem Ffbg_good {G : Go.Ln.Ground} : Good Try.prog G 81 Ffbg_ent:=good_rec fun slf_Ffbg g_Ffbg=>good_T (fnOf_good (gl_c Ffy_good (gl_c Ffx_good (gl_c Ffw_good (gl_c Ffbe_good (gl_c Ffbf_good (gl_c g_Ffbg (gl_c Ffa_good (gl_c Ffbd_good (gl_c Ffbh_good (gl_c Ffv_good (gl_n)))))))))))) agree_mk (Checked.mixed Try.checked) Try.func81 (n:=4) (m:=1) ⟨rfl,rfl,by decide⟩ (fun _=>⟨rfl,rfl⟩) (fun a r h=>Ffbg_run slf_Ffbg a.1 a.2.1 a.2.2.1 a.2.2.2 r h)
def Ffu_A : ((List Int))→List V:=oA (usE 1 I)
def Ffu_R (r : (List Int)) : V × List V:=(.tup [],[.usl 1 ((r).map I)])
noncomputable def Ffu_ent : Ent:=entT [true] Ffu_A Ffu_R fun x=>Ffu x
theorem Ffu_F {x_3 : List Int} {r} (h : Ffu x_3=some r) : (Ffu_ent).F (Ffu_A x_3)=some (Ffu_R r):=entT_F (oA_inj (usl_inj I_inj)) h
noncomputable def Ffu_c : Code:=bodyOf Try.f72
noncomputable def Ffu_E : Env:=mkE Try.prog [(82,Ffo_ent),(81,Ffbg_ent)]
def Ffu_Q (x : (List Int)) (r : (List Int)) : St→Prop:=QF Ffu_E Try.f72 [true] (Ffu_A x) (Ffu_R r)
theorem Ffu_run (x_3 : List Int) (r : (List Int)) (h : Ffu x_3=some r) : RunF Ffu_E Try.f72 [true] 1 (Ffu_A x_3) (Ffu_R r):=by
 show Run _ _ (Ffu_Q x_3 r) [.code Ffu_c] _
 refine rin (n:=11) [(0,.hs 1 0 [] 1 0 ((x_3).map I).length)] [(1,some ⟨0,1,(x_3).map I⟩)] 2 (by kernel_rfl) (by kernel_rfl) (by kernel_rfl) rfl ?_
 unfold Ffu at h
 refine cq 3 [3] [.hs 1 0 [] 1 0 ((x_3).map I).length] 18 ?_
 refine oq 34 (I ((len x_3))) rfl (e_len rfl rfl rfl (l_hsM (f:=I) (xs:=x_3) rfl rfl)) ?_
 refine cq 7 [5,6,8] [.hs 1 0 [] 1 0 ((x_3).map I).length,I ((len x_3)),.int .u64 ((IntKind.u64.wrap (len x_3)))] 114 ?_
 obtain ⟨r2,hr2,h⟩:=bS h
 refine oq 130 (I (r2)) rfl (e_callV rfl rfl (call_P rfl rfl rfl (avS (shP rfl) (avN)) (Ffo_F hr2) (.inr rfl) (bl_n) rfl rfl rfl)) ?_
 obtain ⟨r3,hr3,h⟩:=bS h
 obtain ⟨g4,h⟩:=gG h
 refine oq 146 (.tup []) rfl (e_callV rfl rfl (call_P rfl rfl rfl (avO (hd1 rfl (hd_hs (path:=[]) rfl rfl (ra_n) rfl)) (avS (shP rfl) (avS (shP rfl) (avS (shP rfl) (avN))))) (Ffbg_F hr3) (.inr rfl) (bl_c rfl rfl rfl rfl (bl_n)) rfl rfl rfl)) ?_
 try rw [len_eqM (f:=I) (xs:=x_3) (ys:=r3) g4]
 refine aq 1 ?_
 obtain ⟨g5,h⟩:=gG h
 obtain rfl:=Option.some.inj h
 exact s_end ⟨_,fin (vs:=[]) rfl (absEN) rfl (ou_1 rfl (oc_hsG (f:=I) (xs:=r3) (by simpa using g5) rfl) (ou_n)),kl_c (kl_n)⟩
theorem Ffu_good {G : Go.Ln.Ground} : Good Try.prog G 72 Ffu_ent:=good_T (fnOf_good (gl_c Ffo_good (gl_c Ffbg_good (gl_n)))) agree_mk (Checked.mixed Try.checked) Try.func72 (n:=1) (m:=1) ⟨rfl,rfl,by decide⟩ (fun _=>⟨rfl,rfl⟩) (fun a r h=>Ffu_run a r h)
def Ffr_A : ((List Int))→List V:=oA (usE 1 I)
def Ffr_R (r : (List Int)) : V × List V:=(.usl 1 ((r).map I),[.dead])
noncomputable def Ffr_ent : Ent:=entT [true] Ffr_A Ffr_R fun x=>Ffr x
theorem Ffr_F {s_2 : List Int} {r} (h : Ffr s_2=some r) : (Ffr_ent).F (Ffr_A s_2)=some (Ffr_R r):=entT_F (oA_inj (usl_inj I_inj)) h
noncomputable def Ffr_c : Code:=bodyOf Try.f73
noncomputable abbrev Ffr_ka : Code:=cL (cL (cR (cL (cR (cL (cR (cL (cL (cR (cL (cL (cR (cL (cR (cR Ffr_c)))))))))))))))
noncomputable def Ffr_E : Env:=mkE Try.prog []
def Ffr_Q (x : (List Int)) (r : (List Int)) : St→Prop:=QF Ffr_E Try.f73 [true] (Ffr_A x) (Ffr_R r)
theorem Ffr_lb_run (s_2 : List Int) (x2 : Int) {Q : St→Prop} {K : List It} (hK : noD K=true) : ∀ (x6 : Int × Int × (List Int)) (y : ((List Int)) ⊕ (Int × (List Int))),Ffr_lb s_2 x2 x6=some y→(∀ r',y=.inl r'→∀ st,Ffr_Q s_2 r' st→Q st)→(∀ u : Int × (List Int),y=.inr u→Run Ffr_E 1 Q K (sO 61 [(0,.hs 2 0 [] 1 0 ((u.2).map I).length),(3,I (u.1))] [none,some ⟨0,1,(u.2).map I⟩] 3))→Run Ffr_E 1 Q (.code Ffr_ka :: .lp Ffr_ka :: .blk 2 :: K) (sO 61 [(0,.hs 2 0 [] 1 0 ((x6.2.2).map I).length),(3,I (x6.1)),(4,.hs 2 0 [] 1 (0 + Int.toNat (x2)) (Int.toNat (len s_2) - Int.toNat (x2))),(5,I (x6.2.1))] [none,some ⟨0,1,(x6.2.2).map I⟩] 3):=by
 refine fix_indP (Ffr_lb_fin s_2 x2) ?_
 intro self ih x6 y h hr hn
 unfold Ffr_lb_F at h
 refine cq 8 [32] [B ((decide (x6.2.1 < (((Int.toNat (len s_2) - Int.toNat (x2)) : Nat) : Int))))] 67 ?_
 refine sq h (fun h=>?_) (fun h=>?_)
 · refine aq 1 ?_
   refine aq 3 ?_
   refine s_draw [0,0,3,7,0,0,32,112,240,511] rfl (by decide +kernel) ?_
   refine dk 2 [36,35] [I (x6.2.1),.hs 2 0 [] 1 (0 + Int.toNat (x2)) (Int.toNat (len s_2) - Int.toNat (x2))] ?_
   obtain ⟨e7,he7,h⟩:=bS h
   refine dq [2] [] (.hp 2 0 [] 1 ((0 + Int.toNat (x2)) + Int.toNat (x6.2.1)) 0) rfl (e_indexAddr rfl rfl rfl (ix_pt (xs:=x6.2.2) rfl rfl he7)) ?_
   refine dq [2] [] (I (e7)) rfl (e_ld rfl (ld_at (path:=[]) rfl rfl rfl (ra_n) (get_pt (f:=I) (xs:=x6.2.2) he7) rfl rfl rfl)) ?_
   refine dk 3 [41,40,39] [I ((w64 (x6.2.1 - 1))),I (x6.2.1),.hs 2 0 [] 1 (0 + Int.toNat (x2)) (Int.toNat (len s_2) - Int.toNat (x2))] ?_
   obtain ⟨e8,he8,h⟩:=bS h
   refine dq [2] [] (.hp 2 0 [] 1 ((0 + Int.toNat (x2)) + Int.toNat ((w64 (x6.2.1 - 1)))) 0) rfl (e_indexAddr rfl rfl rfl (ix_pt (xs:=x6.2.2) rfl rfl he8)) ?_
   refine dq [2] [] (I (e8)) rfl (e_ld rfl (ld_at (path:=[]) rfl rfl rfl (ra_n) (get_pt (f:=I) (xs:=x6.2.2) he8) rfl rfl rfl)) ?_
   refine dk 1 [44] [B ((e7 != e8))] ?_
   refine de 227 rfl rfl ?_
   obtain ⟨y9,hy9,hy91,hy92⟩:=bL h
   have j9 : ∀ u9,y9=.inr u9→Run Ffr_E 1 Q (.blk 3 :: .code (cR (cR Ffr_ka)) :: .lp Ffr_ka :: .blk 2 :: K) (sO 61 [(0,.hs 2 0 [] 1 0 ((u9.2).map I).length),(3,I (u9.1)),(4,.hs 2 0 [] 1 (0 + Int.toNat (x2)) (Int.toNat (len s_2) - Int.toNat (x2))),(5,I (x6.2.1))] [none,some ⟨0,1,(u9.2).map I⟩] 3):=by
     intro u9 hu
     replace h:=hy92 u9 hu
     refine cq 6 [5] [I ((w64 (x6.2.1 + 1)))] 51 ?_
     refine s_lp ?_
     exact rg [0,3,4,5] [52,2] (ih _ _ h hr hn :)
   have r9 : ∀ r',y9=.inl r'→∀ st,Ffr_Q s_2 r' st→Q st:=fun r' e st hq=>hr r' (hy91 r' e) st hq
   replace h:=hy9
   refine sq h (fun h=>?_) (fun h=>?_)
   · refine cq 6 [45,46,47,48] [.hs 2 0 [] 1 0 ((x6.2.2).map I).length,I (x6.1),.hs 2 0 [] 1 (0 + Int.toNat (x2)) (Int.toNat (len s_2) - Int.toNat (x2)),I (x6.2.1)] 291 ?_
     obtain ⟨e10,he10,h⟩:=bS h
     refine oq 307 (.hp 2 0 [] 1 ((0 + Int.toNat (x2)) + Int.toNat (x6.2.1)) 0) rfl (e_indexAddr rfl rfl rfl (ix_pt (xs:=x6.2.2) rfl rfl he10)) ?_
     refine oq 323 (I (e10)) rfl (e_ld rfl (ld_at (path:=[]) rfl rfl rfl (ra_n) (get_pt (f:=I) (xs:=x6.2.2) he10) rfl rfl rfl)) ?_
     obtain ⟨e11,he11,h⟩:=bS h
     refine oq 339 (.hp 2 0 [] 1 (0 + Int.toNat (x6.1)) 0) rfl (e_indexAddr rfl rfl rfl (ix_hsM (f:=I) (xs:=x6.2.2) rfl rfl rfl he11)) ?_
     refine o0 355 rfl rfl (e_st rfl rfl (st_at (path:=[]) (pl:=true) (e':=I (e10)) (es2':=((setI x6.2.2 x6.1 e10)).map I) rfl (absorb_plain rfl) rfl rfl rfl (ra_n) (get_map (f:=I) (xs:=x6.2.2) he11) rfl rfl rfl (set_map (f:=I) (xs:=x6.2.2) (y:=e10)) (sr_n) 0 rfl)) ?_
     try rw [← len_setM (f:=I) (xs:=x6.2.2) (i:=x6.1) (z:=e10)]
     refine cq 6 [3] [I ((w64 (x6.1 + 1)))] 403 ?_
     exact rg [0,3,4,5] [404,2] (j9 _ (Option.some.inj h).symm :)
   · refine aq 1 ?_
     exact rg [0,3,4,5] [228,2] (j9 _ (Option.some.inj h).symm :)
 · refine aq 1 ?_
   exact rg [0,3] [68,2] (hn _ (Option.some.inj h).symm :) (hk:=hK)
theorem Ffr_la_run (s_2 : List Int)  {Q : St→Prop} {K : List It} (hK : noD K=true) : ∀ (x2 : Int) (y : ((List Int)) ⊕ ((List Int))),Ffr_la s_2 x2=some y→(∀ r',y=.inl r'→∀ st,Ffr_Q s_2 r' st→Q st)→(∀ u : (List Int),y=.inr u→Run Ffr_E 1 Q K (sO 61 [(0,.hs 2 0 [] 1 0 ((u).map I).length)] [none,some ⟨0,1,(u).map I⟩] 3))→Run Ffr_E 1 Q (.code (cL (cL (cR (cL (cR (cR Ffr_c)))))) :: .lp (cL (cL (cR (cL (cR (cR Ffr_c)))))) :: .blk 0 :: K) (sO 61 [(0,.hs 2 0 [] 1 0 ((s_2).map I).length),(3,I (x2))] [none,some ⟨0,1,(s_2).map I⟩] 3):=by
 refine fix_indP (Ffr_la_fin s_2) ?_
 intro self ih x2 y h hr hn
 unfold Ffr_la_F at h
 refine cq 5 [10,11] [I (x2),.hs 2 0 [] 1 0 ((s_2).map I).length] 35 ?_
 refine oq 51 (I ((len s_2))) rfl (e_len rfl rfl rfl (l_hsM (f:=I) (xs:=s_2) rfl rfl)) ?_
 refine cq 2 [13] [B ((decide (x2 < (len s_2))))] 67 ?_
 refine sq h (fun h=>?_) (fun h=>?_)
 · refine aq 1 ?_
   refine aq 3 ?_
   refine s_draw [0,0,3,7,0,0,32,112,240,511] rfl (by decide +kernel) ?_
   refine dk 2 [17,16] [I (x2),.hs 2 0 [] 1 0 ((s_2).map I).length] ?_
   obtain ⟨e3,he3,h⟩:=bS h
   refine dq [2] [] (.hp 2 0 [] 1 (0 + Int.toNat (x2)) 0) rfl (e_indexAddr rfl rfl rfl (ix_hsM (f:=I) (xs:=s_2) rfl rfl rfl he3)) ?_
   refine dq [2] [] (I (e3)) rfl (e_ld rfl (ld_at (path:=[]) rfl rfl rfl (ra_n) (get_map (f:=I) (xs:=s_2) he3) rfl rfl rfl)) ?_
   refine dk 3 [22,21,20] [I ((w64 (x2 - 1))),I (x2),.hs 2 0 [] 1 0 ((s_2).map I).length] ?_
   obtain ⟨e4,he4,h⟩:=bS h
   refine dq [2] [] (.hp 2 0 [] 1 (0 + Int.toNat ((w64 (x2 - 1)))) 0) rfl (e_indexAddr rfl rfl rfl (ix_hsM (f:=I) (xs:=s_2) rfl rfl rfl he4)) ?_
   refine dq [2] [] (I (e4)) rfl (e_ld rfl (ld_at (path:=[]) rfl rfl rfl (ra_n) (get_map (f:=I) (xs:=s_2) he4) rfl rfl rfl)) ?_
   refine dk 1 [25] [B ((e3 == e4))] ?_
   refine de 227 rfl rfl ?_
   refine sq h (fun h=>?_) (fun h=>?_)
   · refine cq 4 [26,27] [.hs 2 0 [] 1 0 ((s_2).map I).length,I (x2)] 259 ?_
     obtain ⟨s5,hs5,h⟩:=bS h
     refine oq 275 (.hs 2 0 [] 1 (0 + Int.toNat (x2)) (Int.toNat (len s_2) - Int.toNat (x2))) rfl (e_slice rfl rfl rfl rfl (sl_hsM (f:=I) (xs:=s_2) rfl rfl rfl rfl (bd_n rfl) hs5)) ?_
     refine cq 8 [4,5] [.hs 2 0 [] 1 (0 + Int.toNat (x2)) (Int.toNat (len s_2) - Int.toNat (x2)),I (1)] 307 ?_
     obtain ⟨y15,hy15,hy151,hy152⟩:=bL h
     refine s_loop rfl ?_
     refine rg [0,3,4,5] [308,2] (Ffr_lb_run s_2 x2 rfl (x2,1,s_2) _ hy15 (fun r' e st hq=>hr r' (hy151 r' e) st hq) fun u15 hu=>?_)
     replace h:=hy152 u15 hu
     refine cq 4 [54,55] [.hs 2 0 [] 1 0 ((u15.2).map I).length,I (u15.1)] 35 ?_
     obtain ⟨s16,hs16,h⟩:=bS h
     refine oq 51 (.hs 2 0 [] 1 (0 + Int.toNat (u15.1)) (Int.toNat (len u15.2) - Int.toNat (u15.1))) rfl (e_slice rfl rfl rfl rfl (sl_hsM (f:=I) (xs:=u15.2) rfl rfl rfl rfl (bd_n rfl) hs16)) ?_
     obtain ⟨k17,hk17,h⟩:=bS h
     refine o0 67 rfl rfl (e_clear rfl rfl (cl_pt (f:=I) (xs:=u15.2) (z0:=0) rfl rfl rfl rfl (by decide) I_flat hk17)) ?_
     try rw [show (u15.2.map I).length=(k17.map I).length from clr_len hk17]
     refine cq 5 [57,58] [.hs 2 0 [] 1 0 ((k17).map I).length,I (u15.1)] 99 ?_
     obtain ⟨s18,hs18,h⟩:=bS h
     refine oq 115 (.hs 2 0 [] 1 (0 + Int.toNat (0)) (Int.toNat (u15.1) - Int.toNat (0))) rfl (e_slice rfl rfl rfl rfl (sl_hsM (f:=I) (xs:=k17) rfl rfl rfl rfl rfl hs18)) ?_
     refine cq 2 [2] [.hs 2 0 [] 1 (0 + Int.toNat (0)) (Int.toNat (u15.1) - Int.toNat (0))] 131 ?_
     obtain ⟨p19,hp19,h⟩:=bS h
     exact s_ret rfl (hr _ (Option.some.inj h).symm _ ⟨_,fin (vs:=[.hs 2 0 [] 1 (0 + Int.toNat (0)) (Int.toNat (u15.1) - Int.toNat (0))]) rfl (absE (abs1 rfl (abs_pt (path:=[]) (f:=I) (xs:=k17) rfl rfl (ra_n) hp19 rfl (to_n))) (absEN)) rfl (ou_1 rfl (oc_no rfl) (ou_n)),kl_d (kl_n)⟩)
   · refine aq 1 ?_
     refine cq 6 [3] [I ((w64 (x2 + 1)))] 275 ?_
     refine s_lp ?_
     exact rg [0,3] [276,2] (ih _ _ h hr hn :)
 · refine aq 1 ?_
   exact rg [0] [68,2] (hn _ (Option.some.inj h).symm :) (hk:=hK)
theorem Ffr_run (s_2 : List Int) (r : (List Int)) (h : Ffr s_2=some r) : RunF Ffr_E Try.f73 [true] 1 (Ffr_A s_2) (Ffr_R r):=by
 show Run _ _ (Ffr_Q s_2 r) [.code Ffr_c] _
 refine rin (n:=61) [(0,.hs 1 0 [] 1 0 ((s_2).map I).length)] [(1,some ⟨0,1,(s_2).map I⟩)] 2 (by kernel_rfl) (by kernel_rfl) (by kernel_rfl) rfl ?_
 unfold Ffr at h
 refine cq 8 [6] [.hs 1 0 [] 1 0 ((s_2).map I).length] 34 ?_
 refine oq 50 (I ((len s_2))) rfl (e_len rfl rfl rfl (l_hsM (f:=I) (xs:=s_2) rfl rfl)) ?_
 refine cq 2 [8] [B ((decide ((len s_2) < 2)))] 66 ?_
 refine sq h (fun h=>?_) (fun h=>?_)
 · refine cq 5 [2] [.hs 1 0 [] 1 0 ((s_2).map I).length] 98 ?_
   obtain rfl:=Option.some.inj h
   exact s_ret rfl ⟨_,fin (vs:=[.hs 1 0 [] 1 0 ((s_2).map I).length]) rfl (absE (abs1 rfl (abs_hs rfl rfl)) (absEN)) rfl (ou_1 rfl (oc_no rfl) (ou_n)),kl_d (kl_n)⟩
 · refine aq 1 ?_
   refine cq 6 [3] [I (1)] 82 ?_
   obtain ⟨y20,hy20,hy201,hy202⟩:=bJ h
   refine s_loop rfl ?_
   refine rg [0,3] [83,1] (Ffr_la_run s_2 rfl 1 _ hy20 (fun r' e st hq=>by rw [hy201 r' e] at hq; exact hq) fun u20 hu=>?_)
   replace h:=hy202 u20 hu
   refine cq 5 [2] [.hs 2 0 [] 1 0 ((u20).map I).length] 35 ?_
   obtain rfl:=Option.some.inj h
   exact s_ret rfl ⟨_,fin (vs:=[.hs 2 0 [] 1 0 ((u20).map I).length]) rfl (absE (abs1 rfl (abs_hs rfl rfl)) (absEN)) rfl (ou_1 rfl (oc_no rfl) (ou_n)),kl_d (kl_n)⟩
theorem Ffr_good {G : Go.Ln.Ground} : Good Try.prog G 73 Ffr_ent:=good_T (fnOf_good (gl_n)) agree_mk (Checked.mixed Try.checked) Try.func73 (n:=1) (m:=1) ⟨rfl,rfl,by decide⟩ (fun _=>⟨rfl,rfl⟩) (fun a r h=>Ffr_run a r h)
def Ffl_A : ((List Int) × (List Int))→List V:=cA (slE I) (oA (slE I))
def Ffl_R (r : (List Int)) : V × List V:=(.usl 1 ((r).map I),[])
noncomputable def Ffl_ent : Ent:=entT [false,false] Ffl_A Ffl_R fun x=>Ffl x.1 x.2
theorem Ffl_F {a_1 : List Int} {b_2 : List Int} {r} (h : Ffl a_1 b_2=some r) : (Ffl_ent).F (Ffl_A (a_1,b_2))=some (Ffl_R r):=entT_F (cA_inj (isl_inj I_inj) (oA_inj (isl_inj I_inj))) h
noncomputable def Ffl_c : Code:=bodyOf Try.f51
noncomputable def Ffl_E : Env:=mkE Try.prog [(71,Ffq_ent),(72,Ffu_ent),(73,Ffr_ent)]
def Ffl_Q (x : (List Int) × (List Int)) (r : (List Int)) : St→Prop:=QF Ffl_E Try.f51 [false,false] (Ffl_A x) (Ffl_R r)
theorem Ffl_run (a_1 : List Int) (b_2 : List Int) (r : (List Int)) (h : Ffl a_1 b_2=some r) : RunF Ffl_E Try.f51 [false,false] 0 (Ffl_A (a_1,b_2)) (Ffl_R r):=by
 show Run _ _ (Ffl_Q (a_1,b_2) r) [.code Ffl_c] _
 refine rin (n:=14) [(0,.isl false ((a_1).map I)),(1,.isl false ((b_2).map I))] [] 1 (by kernel_rfl) (by kernel_rfl) (by kernel_rfl) rfl ?_
 unfold Ffl at h
 refine cq 7 [6] [.isl false ((a_1).map I)] 33 ?_
 obtain ⟨r3,hr3,h⟩:=bS h
 refine oq 49 (.hs 33 0 [] 1 0 ((r3).map I).length) rfl (e_callV rfl rfl (call_P rfl rfl rfl (avS (shP rfl) (avN)) (Ffq_F hr3) (.inr rfl) (bl_n) rfl rfl rfl)) ?_
 refine cq 1 [8] [.isl false ((b_2).map I)] 65 ?_
 obtain ⟨a4,ha4,h⟩:=bS h
 refine oq 81 (.hs 65 0 [] 1 0 ((a4).map I).length) rfl (e_append rfl rfl rfl rfl rfl (ap_hsM (path:=[]) (f:=I) (xs:=r3) (ys:=b_2) rfl rfl (take_isl) rfl rfl rfl (ra_n) rfl (by decide) I_cells ha4 rfl (to_n))) ?_
 refine cq 5 [5,10] [.hs 65 0 [] 1 0 ((a4).map I).length,.hs 65 0 [] 1 0 ((a4).map I).length] 113 ?_
 obtain ⟨r5,hr5,h⟩:=bS h
 obtain ⟨g6,h⟩:=gG h
 refine oq 129 (.tup []) rfl (e_callV rfl rfl (call_P rfl rfl rfl (avO (hd1 rfl (hd_hs (path:=[]) rfl rfl (ra_n) rfl)) (avN)) (Ffu_F hr5) (.inr rfl) (bl_c rfl rfl rfl rfl (bl_n)) rfl rfl rfl)) ?_
 try rw [len_eqM (f:=I) (xs:=a4) (ys:=r5) g6]
 refine cq 4 [12] [.hs 65 0 [] 1 0 ((r5).map I).length] 145 ?_
 obtain ⟨r7,hr7,h⟩:=bS h
 refine oq 161 (.hs 145 0 [] 1 0 ((r7).map I).length) rfl (e_callV rfl rfl (call_P rfl rfl rfl (avO (hd1 rfl (hd_hs (path:=[]) rfl rfl (ra_n) rfl)) (avN)) (Ffr_F hr7) (.inr rfl) (bl_c rfl rfl rfl bk_dead (bl_n)) rfl rfl rfl)) ?_
 refine cq 2 [4] [.hs 145 0 [] 1 0 ((r7).map I).length] 177 ?_
 obtain rfl:=Option.some.inj h
 exact s_ret rfl ⟨_,fin (vs:=[.hs 145 0 [] 1 0 ((r7).map I).length]) rfl (absE (abs1 rfl (abs_hs rfl rfl)) (absEN)) rfl (ou_f (ou_f (ou_n))),kl_n⟩
theorem Ffl_good {G : Go.Ln.Ground} : Good Try.prog G 51 Ffl_ent:=good_T (fnOf_good (gl_c Ffq_good (gl_c Ffu_good (gl_c Ffr_good (gl_n))))) agree_mk (Checked.mixed Try.checked) Try.func51 (n:=2) (m:=0) ⟨rfl,rfl,by decide⟩ (fun _=>⟨rfl,rfl⟩) (fun a r h=>Ffl_run a.1 a.2 r h)
def Ffg_A : (Calendar × Calendar)→List V:=cA encI_Calendar (oA encI_Calendar)
def Ffg_R (r : Calendar × Bool) : V × List V:=(.tup [encO_Calendar r.1,B (r.2)],[])
noncomputable def Ffg_ent : Ent:=entT [false,false] Ffg_A Ffg_R fun x=>Ffg x.1 x.2
theorem Ffg_F {a_1 : Calendar} {b_2 : Calendar} {r} (h : Ffg a_1 b_2=some r) : (Ffg_ent).F (Ffg_A (a_1,b_2))=some (Ffg_R r):=entT_F (cA_inj encI_Calendar_inj (oA_inj encI_Calendar_inj)) h
noncomputable def Ffg_c : Code:=bodyOf Try.f19
noncomputable def Ffg_E : Env:=mkE Try.prog [(51,Ffl_ent),(35,Fff_ent)]
def Ffg_Q (x : Calendar × Calendar) (r : Calendar × Bool) : St→Prop:=QF Ffg_E Try.f19 [false,false] (Ffg_A x) (Ffg_R r)
theorem Ffg_run (a_1 : Calendar) (b_2 : Calendar) (r : Calendar × Bool) (h : Ffg a_1 b_2=some r) : RunF Ffg_E Try.f19 [false,false] 0 (Ffg_A (a_1,b_2)) (Ffg_R r):=by
 show Run _ _ (Ffg_Q (a_1,b_2) r) [.code Ffg_c] _
 refine rin (n:=33) [(0,encI_Calendar a_1),(1,encI_Calendar b_2)] [] 1 (by kernel_rfl) (by kernel_rfl) (by kernel_rfl) rfl ?_
 unfold Ffg at h
 refine ck 5 [2,3,4] [] [1,17,33] [] [.hp 1 0 [] 2 0 0,.hp 17 0 [] 2 0 0,.hp 33 0 [] 2 0 0] [some ⟨0,2,[encI_Calendar a_1]⟩,some ⟨0,2,[encI_Calendar b_2]⟩,some ⟨0,2,[.agg [.isl true [],.isl true []]]⟩] 49 (by kernel_rfl) ?_
 refine run_row 33 [.agg [.usl 1 (([]).map I),.usl 1 (([]).map I)]] rfl rfl (cvs_c (cv_agg (cvs_c (.nil _) (cvs_c (.nil _) (cvs_n)))) cvs_n) ?_
 refine cq 3 [] [] 65 ?_
 refine s_draw [0,1,0,4,15,0,32,0,128,511,1023,0,4095] rfl (by decide +kernel) ?_
 refine dq [1] [] (.hp 1 0 [] 2 0 0) rfl (e_fieldAddr rfl rfl rfl) ?_
 refine dq [1] [] (.isl false ((a_1.Weekend).map I)) rfl (e_ld rfl rfl) ?_
 refine dq [17] [] (.hp 17 0 [] 2 0 0) rfl (e_fieldAddr rfl rfl rfl) ?_
 refine dq [17] [] (.isl false ((b_2.Weekend).map I)) rfl (e_ld rfl rfl) ?_
 obtain ⟨r3,hr3,h⟩:=bS h
 refine dq [] [] (.hs 129 0 [] 1 0 ((r3).map I).length) rfl (e_callV rfl rfl (call_P rfl rfl rfl (avS (shP rfl) (avS (shP rfl) (avN))) (Ffl_F hr3) (.inr rfl) (bl_n) rfl rfl rfl)) ?_ (w_callO rfl rfl rfl rfl (avS (shP rfl) (avS (shP rfl) (avN))) (Ffl_F hr3) (.inr rfl) rfl)
 refine dq [1] [] (.hp 1 0 [] 2 0 1) rfl (e_fieldAddr rfl rfl rfl) ?_
 refine dq [1] [] (.isl false ((a_1.Holidays).map I)) rfl (e_ld rfl rfl) ?_
 refine dq [17] [] (.hp 17 0 [] 2 0 1) rfl (e_fieldAddr rfl rfl rfl) ?_
 refine dq [17] [] (.isl false ((b_2.Holidays).map I)) rfl (e_ld rfl rfl) ?_
 obtain ⟨r4,hr4,h⟩:=bS h
 refine dq [] [] (.hs 209 0 [] 1 0 ((r4).map I).length) rfl (e_callV rfl rfl (call_P rfl rfl rfl (avS (shP rfl) (avS (shP rfl) (avN))) (Ffl_F hr4) (.inr rfl) (bl_n) rfl rfl rfl)) ?_ (w_callO rfl rfl rfl rfl (avS (shP rfl) (avS (shP rfl) (avN))) (Ffl_F hr4) (.inr rfl) rfl)
 refine dk 1 [17] [.agg [.hs 129 0 [] 1 0 ((r3).map I).length,.hs 209 0 [] 1 0 ((r4).map I).length]] ?_
 refine dq [] [] (.hp 241 0 [] 2 0 0) rfl (e_allocP (z:=.agg [.isl true [],.isl true []]) rfl rfl rfl) ?_
 refine dz [241,129,209] [241,129,209] rfl (e_st rfl rfl (st_at (path:=[]) (pl:=false) (e':=.agg [.usl 1 ((r3).map I),.usl 1 ((r4).map I)]) (es2':=[.agg [.usl 1 ((r3).map I),.usl 1 ((r4).map I)]]) rfl (absA (absC (abs_hs rfl rfl) (absC (abs_hs rfl rfl) (absN)))) rfl rfl rfl (ra_n) rfl rfl rfl rfl rfl (sr_n) 1 rfl)) ?_
 refine de 273 rfl rfl ?_
 refine cq 4 [18] [encI_Calendar a_1] 289 ?_
 obtain ⟨r5,hr5,h⟩:=bS h
 refine oq 305 (B (r5)) rfl (e_callV rfl rfl (call_P rfl rfl rfl (avS (shP rfl) (avN)) (Fff_F hr5) (.inr rfl) (bl_n) rfl rfl rfl)) ?_
 refine cq 2 [21] [B ((!r5))] 337 ?_
 obtain ⟨y6,hy6,hy61,hy62⟩:=bJ h
 have j6 : ∀ u6,y6=.inr u6→Run Ffg_E 0 (Ffg_Q (a_1,b_2) r) (.code (cR (cL (cR (cR Ffg_c)))) :: .code (cR (cR (cR Ffg_c))) :: []) (sT 33 [(4,.hp 1 0 [] 2 0 0),(6,.hp 2 0 [] 2 0 0),(30,B (u6))] [⟨0,2,[.agg [.usl 1 (([]).map I),.usl 1 (([]).map I)]]⟩,⟨0,2,[.agg [.usl 1 ((r3).map I),.usl 1 ((r4).map I)]]⟩] 3):=by
   intro u6 hu
   replace h:=hy62 u6 hu
   refine sq h (fun h=>?_) (fun h=>?_)
   · refine ck 4 [] [] [1] [] [] [some ⟨1,2,[.agg [.isl true [],.isl true []]]⟩] 35 (by kernel_rfl) ?_
     refine run_row 1 [.agg [.usl 1 (([]).map I),.usl 1 (([]).map I)]] rfl rfl (cvs_c (cv_agg (cvs_c (.nil _) (cvs_c (.nil _) (cvs_n)))) cvs_n) ?_
     refine cq 2 [5] [B (false)] 51 ?_
     obtain rfl:=Option.some.inj h
     exact s_ret rfl ⟨_,fin (vs:=[.agg [.hs 1 2 [(0,0)] 1 0 (([]).map I).length,.hs 1 2 [(0,1)] 1 0 (([]).map I).length],B (false)]) (rs_c (rs_cell rfl rfl rfl) (rs_c (rfl) (rs_n))) (absE (absA (absC (abs_at (path:=[(0,0)]) rfl rfl (ra_c rfl rfl (ra_n)) rfl (to_c (path:=[]) (i:=0) (k:=0) (e':=.agg [.dead,.usl 1 (([]).map I)]) (es2':=[.agg [.dead,.usl 1 (([]).map I)]]) (ra_n) rfl rfl rfl (sr_n))) (absC (abs_at (path:=[(0,1)]) rfl rfl (ra_c rfl rfl (ra_n)) rfl (to_c (path:=[]) (i:=0) (k:=1) (e':=.agg [.dead,.dead]) (es2':=[.agg [.dead,.dead]]) (ra_n) rfl rfl rfl (sr_n))) (absN)))) (absE (absorb_plain rfl) (absEN))) rfl (ou_f (ou_f (ou_n))),kl_n⟩
   · refine aq 1 ?_
     refine cq 3 [32] [.agg [.hs 2 0 [(0,0)] 1 0 ((r3).map I).length,.hs 2 0 [(0,1)] 1 0 ((r4).map I).length]] 19 ?_
     refine o0 35 rfl rfl (e_st rfl rfl (st_at (path:=[]) (pl:=false) (e':=.agg [.usl 1 ((r3).map I),.usl 1 ((r4).map I)]) (es2':=[.agg [.usl 1 ((r3).map I),.usl 1 ((r4).map I)]]) rfl (absA (absC (abs_at (path:=[(0,0)]) rfl rfl (ra_c rfl rfl (ra_n)) rfl (to_c (path:=[]) (i:=0) (k:=0) (e':=.agg [.dead,.usl 1 ((r4).map I)]) (es2':=[.agg [.dead,.usl 1 ((r4).map I)]]) (ra_n) rfl rfl rfl (sr_n))) (absC (abs_at (path:=[(0,1)]) rfl rfl (ra_c rfl rfl (ra_n)) rfl (to_c (path:=[]) (i:=0) (k:=1) (e':=.agg [.dead,.dead]) (es2':=[.agg [.dead,.dead]]) (ra_n) rfl rfl rfl (sr_n))) (absN)))) rfl rfl rfl (ra_n) rfl rfl rfl rfl rfl (sr_n) 1 rfl)) ?_
     refine cq 2 [5] [B (true)] 51 ?_
     obtain rfl:=Option.some.inj h
     exact s_ret rfl ⟨_,fin (vs:=[.agg [.hs 1 1 [(0,0)] 1 0 ((r3).map I).length,.hs 1 1 [(0,1)] 1 0 ((r4).map I).length],B (true)]) (rs_c (rs_cell rfl rfl rfl) (rs_c (rfl) (rs_n))) (absE (absA (absC (abs_at (path:=[(0,0)]) rfl rfl (ra_c rfl rfl (ra_n)) rfl (to_c (path:=[]) (i:=0) (k:=0) (e':=.agg [.dead,.usl 1 ((r4).map I)]) (es2':=[.agg [.dead,.usl 1 ((r4).map I)]]) (ra_n) rfl rfl rfl (sr_n))) (absC (abs_at (path:=[(0,1)]) rfl rfl (ra_c rfl rfl (ra_n)) rfl (to_c (path:=[]) (i:=0) (k:=1) (e':=.agg [.dead,.dead]) (es2':=[.agg [.dead,.dead]]) (ra_n) rfl rfl rfl (sr_n))) (absN)))) (absE (absorb_plain rfl) (absEN))) rfl (ou_f (ou_f (ou_n))),kl_n⟩
 have r6 : ∀ r',y6=.inl r'→∀ st,Ffg_Q (a_1,b_2) r' st→(Ffg_Q (a_1,b_2) r) st:=fun r' e st hq=>by rw [hy61 r' e] at hq; exact hq
 replace h:=hy6
 refine sp 21 h rfl (fun h=>?_) (fun h=>?_)
 · refine cq 10 [30] [B (true)] 481 ?_
   exact rf [4,6,30] [33,241] (j6 _ (Option.some.inj h).symm :)
 · refine cq 1 [22] [encI_Calendar b_2] 353 ?_
   obtain ⟨r7,hr7,h⟩:=bS h
   refine oy 369 (B (r7)) rfl (e_callV rfl rfl (call_P rfl rfl rfl (avS (shP rfl) (avN)) (Fff_F hr7) (.inr rfl) (bl_n) rfl rfl rfl)) ?_
   refine cq 3 [26] [B ((!r7))] 417 ?_
   obtain ⟨y8,hy8,hy81,hy82⟩:=bL h
   have j8 : ∀ u8,y8=.inr u8→Run Ffg_E 0 (Ffg_Q (a_1,b_2) r) (.code (cR (cL (cR (cR Ffg_c)))) :: .code (cR (cR (cR Ffg_c))) :: []) (sT 33 [(4,.hp 1 0 [] 2 0 0),(6,.hp 2 0 [] 2 0 0),(30,B (u8))] [⟨0,2,[.agg [.usl 1 (([]).map I),.usl 1 (([]).map I)]]⟩,⟨0,2,[.agg [.usl 1 ((r3).map I),.usl 1 ((r4).map I)]]⟩] 3):=by
     intro u8 hu
     replace h:=hy82 u8 hu
     exact rf [4,6,30] [1,2] (j6 _ (Option.some.inj h).symm :)
   have r8 : ∀ r',y8=.inl r'→∀ st,Ffg_Q (a_1,b_2) r' st→(Ffg_Q (a_1,b_2) r) st:=fun r' e st hq=>r6 r' (hy81 r' e) st hq
   replace h:=hy8
   refine sp 26 h rfl (fun h=>?_) (fun h=>?_)
   · refine cq 5 [30] [B (true)] 481 ?_
     exact rf [4,6,30] [33,241] (j8 _ (Option.some.inj h).symm :)
   · refine cq 1 [27] [.agg [.hs 241 1 [(0,0)] 1 0 ((r3).map I).length,.hs 241 1 [(0,1)] 1 0 ((r4).map I).length]] 433 ?_
     obtain ⟨r9,hr9,h⟩:=bS h
     refine oy 449 (B (r9)) rfl (e_callV rfl rfl (call_P rfl rfl rfl (avS (shA (shC (sh_at (path:=[(0,0)]) rfl rfl (ra_c rfl rfl (ra_n)) rfl (imms_of (f:=I) I_imm)) (shC (sh_at (path:=[(0,1)]) rfl rfl (ra_c rfl rfl (ra_n)) rfl (imms_of (f:=I) I_imm)) (shN)))) (avN)) (Fff_F hr9) (.inl (rfl)) (bl_n) rfl rfl rfl)) ?_
     refine cq 3 [30] [B ((!r9))] 481 ?_
     exact rf [4,6,30] [33,241] (j8 _ (Option.some.inj h).symm :)
theorem Ffg_good {G : Go.Ln.Ground} : Good Try.prog G 19 Ffg_ent:=good_T (fnOf_good (gl_c Ffl_good (gl_c Fff_good (gl_n)))) agree_mk (Checked.mixed Try.checked) Try.func19 (n:=2) (m:=0) ⟨rfl,rfl,by decide⟩ (fun _=>⟨rfl,rfl⟩) (fun a r h=>Ffg_run a.1 a.2 r h)
def Ffcb_A : ((List Int))→List V:=oA (slE I)
def Ffcb_R (r : (List Int)) : V × List V:=(.usl 1 ((r).map I),[])
noncomputable def Ffcb_ent : Ent:=entT [false] Ffcb_A Ffcb_R fun x=>Ffcb x
theorem Ffcb_F {l_1 : List Int} {r} (h : Ffcb l_1=some r) : (Ffcb_ent).F (Ffcb_A l_1)=some (Ffcb_R r):=entT_F (oA_inj (isl_inj I_inj)) h
noncomputable def Ffcb_c : Code:=bodyOf Try.f74
noncomputable def Ffcb_E : Env:=mkE Try.prog []
def Ffcb_Q (x : (List Int)) (r : (List Int)) : St→Prop:=QF Ffcb_E Try.f74 [false] (Ffcb_A x) (Ffcb_R r)
theorem Ffcb_run (l_1 : List Int) (r : (List Int)) (h : Ffcb l_1=some r) : RunF Ffcb_E Try.f74 [false] 0 (Ffcb_A l_1) (Ffcb_R r):=by
 show Run _ _ (Ffcb_Q l_1 r) [.code Ffcb_c] _
 refine rin (n:=6) [(0,.isl false ((l_1).map I))] [] 1 (by kernel_rfl) (by kernel_rfl) (by kernel_rfl) rfl ?_
 unfold Ffcb at h
 refine cq 6 [] [] 17 ?_
 refine oq 33 (.hs 17 0 [] 1 0 0) rfl (e_buildSlice rfl (bs_mk (f:=I) (xs:=[]) (z:=I (0)) (es:=[]) (ws:=[]) rfl rfl rfl (by decide) rfl (abs_each_plain rfl) rfl)) ?_
 refine cq 1 [4] [.isl false ((l_1).map I)] 49 ?_
 obtain ⟨a2,ha2,h⟩:=bS h
 refine oq 65 (.hs 49 0 [] 1 0 ((a2).map I).length) rfl (e_append rfl rfl rfl rfl rfl (ap_hsM (path:=[]) (es0:=[]) (f:=I) (xs:=([] : List Int)) (ys:=l_1) rfl rfl (take_isl) rfl rfl rfl (rfl) rfl (by decide) I_cells ha2 rfl (to_n))) ?_
 refine cq 2 [2] [.hs 49 0 [] 1 0 ((a2).map I).length] 81 ?_
 obtain rfl:=Option.some.inj h
 exact s_ret rfl ⟨_,fin (vs:=[.hs 49 0 [] 1 0 ((a2).map I).length]) rfl (absE (abs1 rfl (abs_hs rfl rfl)) (absEN)) rfl (ou_f (ou_n)),kl_n⟩
theorem Ffcb_good {G : Go.Ln.Ground} : Good Try.prog G 74 Ffcb_ent:=good_T (fnOf_good (gl_n)) agree_mk (Checked.mixed Try.checked) Try.func74 (n:=1) (m:=0) ⟨rfl,rfl,by decide⟩ (fun _=>⟨rfl,rfl⟩) (fun a r h=>Ffcb_run a r h)
def Ffcc_A : ((List Int) × Int)→List V:=cA (usE 1 I) (oA I)
def Ffcc_R (r : (List Int)) : V × List V:=(.usl 1 ((r).map I),[.dead])
noncomputable def Ffcc_ent : Ent:=entT [true,false] Ffcc_A Ffcc_R fun x=>Ffcc x.1 x.2
theorem Ffcc_F {l_8 : List Int} {n_9 : Int} {r} (h : Ffcc l_8 n_9=some r) : (Ffcc_ent).F (Ffcc_A (l_8,n_9))=some (Ffcc_R r):=entT_F (cA_inj (usl_inj I_inj) (oA_inj I_inj)) h
noncomputable def Ffcc_c : Code:=bodyOf Try.f75
noncomputable def Ffcc_E : Env:=mkE Try.prog []
def Ffcc_Q (x : (List Int) × Int) (r : (List Int)) : St→Prop:=QF Ffcc_E Try.f75 [true,false] (Ffcc_A x) (Ffcc_R r)
theorem Ffcc_la_run (l_8 : List Int) (n_9 : Int)  {Q : St→Prop} {K : List It} (hK : noD K=true) : ∀ (x3 : Int) (y : ((List Int)) ⊕ (Int × Int × (List Int))),Ffcc_la l_8 n_9 x3=some y→(∀ r',y=.inl r'→∀ st,Ffcc_Q (l_8,n_9) r' st→Q st)→(∀ u : Int × Int × (List Int),y=.inr u→Run Ffcc_E 1 Q K (sO 45 [(0,.hs 2 0 [] 1 0 ((u.2.2).map I).length),(1,I (u.1)),(5,I (u.2.1))] [none,some ⟨0,1,(u.2.2).map I⟩] 3))→Run Ffcc_E 1 Q (.code (cL (cL (cL (cR (cR Ffcc_c))))) :: .lp (cL (cL (cL (cR (cR Ffcc_c))))) :: .blk 0 :: K) (sO 45 [(0,.hs 2 0 [] 1 0 ((l_8).map I).length),(1,I (n_9)),(5,I (x3))] [none,some ⟨0,1,(l_8).map I⟩] 3):=by
 refine fix_indP (Ffcc_la_fin l_8 n_9) ?_
 intro self ih x3 y h hr hn
 unfold Ffcc_la_F at h
 refine cq 5 [6,7] [I (x3),.hs 2 0 [] 1 0 ((l_8).map I).length] 35 ?_
 refine oq 51 (I ((len l_8))) rfl (e_len rfl rfl rfl (l_hsM (f:=I) (xs:=l_8) rfl rfl)) ?_
 refine cq 2 [10] [B ((decide (x3 < (len l_8))))] 83 ?_
 obtain ⟨y4,hy4,hy41,hy42⟩:=bL h
 have j4 : ∀ u4,y4=.inr u4→Run Ffcc_E 1 Q (.code (cR (cL (cL (cL (cL (cR (cR Ffcc_c))))))) :: .code (cR (cL (cL (cL (cR (cR Ffcc_c)))))) :: .lp (cL (cL (cL (cR (cR Ffcc_c))))) :: .blk 0 :: K) (sO 45 [(0,.hs 2 0 [] 1 0 ((l_8).map I).length),(1,I (n_9)),(5,I (x3)),(17,B (u4))] [none,some ⟨0,1,(l_8).map I⟩] 3):=by
   intro u4 hu
   replace h:=hy42 u4 hu
   refine sq h (fun h=>?_) (fun h=>?_)
   · refine aq 1 ?_
     refine cq 7 [5] [I ((w64 (x3 + 1)))] 51 ?_
     refine s_lp ?_
     exact rg [0,1,5] [52,2] (ih _ _ h hr hn :)
   · refine aq 1 ?_
     exact rg [0,1,5] [4,2] (hn _ (Option.some.inj h).symm :) (hk:=hK)
 have r4 : ∀ r',y4=.inl r'→∀ st,Ffcc_Q (l_8,n_9) r' st→Q st:=fun r' e st hq=>hr r' (hy41 r' e) st hq
 replace h:=hy4
 refine sp 10 h rfl (fun h=>?_) (fun h=>?_)
 · refine cq 2 [11,12] [.hs 2 0 [] 1 0 ((l_8).map I).length,I (x3)] 115 ?_
   obtain ⟨e5,he5,h⟩:=bS h
   refine oy 131 (.hp 2 0 [] 1 (0 + Int.toNat (x3)) 0) rfl (e_indexAddr rfl rfl rfl (ix_hsM (f:=I) (xs:=l_8) rfl rfl rfl he5)) ?_
   refine oy 147 (I (e5)) rfl (e_ld rfl (ld_at (path:=[]) rfl rfl rfl (ra_n) (get_map (f:=I) (xs:=l_8) he5) rfl rfl rfl)) ?_
   refine cq 4 [17] [B ((decide (e5 < n_9)))] 195 ?_
   exact rg [0,1,5,17] [196,2] (j4 _ (Option.some.inj h).symm :)
 · refine cq 8 [17] [B (false)] 195 ?_
   exact rg [0,1,5,17] [196,2] (j4 _ (Option.some.inj h).symm :)
theorem Ffcc_run (l_8 : List Int) (n_9 : Int) (r : (List Int)) (h : Ffcc l_8 n_9=some r) : RunF Ffcc_E Try.f75 [true,false] 1 (Ffcc_A (l_8,n_9)) (Ffcc_R r):=by
 show Run _ _ (Ffcc_Q (l_8,n_9) r) [.code Ffcc_c] _
 refine rin (n:=45) [(0,.hs 1 0 [] 1 0 ((l_8).map I).length),(1,I (n_9))] [(1,some ⟨0,1,(l_8).map I⟩)] 2 (by kernel_rfl) (by kernel_rfl) (by kernel_rfl) rfl ?_
 unfold Ffcc at h
 refine cq 10 [5] [I (0)] 34 ?_
 obtain ⟨y6,hy6,hy61,hy62⟩:=bJ h
 refine s_loop rfl ?_
 refine rg [0,1,5] [35,1] (Ffcc_la_run l_8 n_9 rfl 0 _ hy6 (fun r' e st hq=>by rw [hy61 r' e] at hq; exact hq) fun u6 hu=>?_)
 replace h:=hy62 u6 hu
 refine cq 5 [20,21] [I (u6.2.1),.hs 2 0 [] 1 0 ((u6.2.2).map I).length] 35 ?_
 refine oq 51 (I ((len u6.2.2))) rfl (e_len rfl rfl rfl (l_hsM (f:=I) (xs:=u6.2.2) rfl rfl)) ?_
 refine cq 2 [24] [B ((decide (u6.2.1 < (len u6.2.2))))] 83 ?_
 obtain ⟨y7,hy7,hy71,hy72⟩:=bJ h
 have j7 : ∀ u7,y7=.inr u7→Run Ffcc_E 1 (Ffcc_Q (l_8,n_9) r) (.code (cR (cL (cR (cR (cR Ffcc_c))))) :: .code (cR (cR (cR (cR Ffcc_c)))) :: []) (sO 45 [(0,.hs 2 0 [] 1 0 ((u6.2.2).map I).length),(1,I (u6.1)),(5,I (u6.2.1)),(31,B (u7))] [none,some ⟨0,1,(u6.2.2).map I⟩] 3):=by
   intro u7 hu
   replace h:=hy72 u7 hu
   refine sq h (fun h=>?_) (fun h=>?_)
   · refine cq 5 [4] [.hs 2 0 [] 1 0 ((u6.2.2).map I).length] 35 ?_
     obtain rfl:=Option.some.inj h
     exact s_ret rfl ⟨_,fin (vs:=[.hs 2 0 [] 1 0 ((u6.2.2).map I).length]) rfl (absE (abs1 rfl (abs_hs rfl rfl)) (absEN)) rfl (ou_1 rfl (oc_no rfl) (ou_f (ou_n))),kl_d (kl_n)⟩
   · refine aq 1 ?_
     refine aq 1 ?_
     refine s_draw [0,0,0,6,15,0,32,127,0,0,768,2047,4095] rfl (by decide +kernel) ?_
     refine dq [] [] (.hs 3 0 [] 1 0 0) rfl (e_buildSlice rfl (bs_mk (f:=I) (xs:=[]) (z:=I (0)) (es:=[]) (ws:=[]) rfl rfl rfl (by decide) rfl (abs_each_plain rfl) rfl)) ?_
     refine dk 2 [35,34] [I (u6.2.1),.hs 2 0 [] 1 0 ((u6.2.2).map I).length] ?_
     obtain ⟨s8,hs8,h⟩:=bS h
     refine dq [2] [] (.hs 2 0 [] 1 (0 + Int.toNat (0)) (Int.toNat (u6.2.1) - Int.toNat (0))) rfl (e_slice rfl rfl rfl rfl (sl_hsM (f:=I) (xs:=u6.2.2) rfl rfl rfl rfl rfl hs8)) ?_
     obtain ⟨p9,hp9,h⟩:=bS h
     obtain ⟨a10,ha10,h⟩:=bS h
     refine dq [3,2] [3] (.hs 67 0 [] 1 0 ((a10).map I).length) rfl (e_append rfl rfl rfl rfl rfl (ap_hsM (path:=[]) (es0:=[]) (f:=I) (xs:=([] : List Int)) (ys:=p9) rfl rfl (take_pt (path:=[]) (f:=I) (xs:=u6.2.2) rfl rfl (ra_n) hp9 I_flat) rfl rfl rfl (rfl) rfl (by decide) I_cells ha10 rfl (to_n))) ?_ (w_app rfl (aw_hs (path:=[]) (f:=I) (xs:=u6.2.2) rfl rfl (ra_n) I_flat rfl))
     refine dk 1 [38] [I (u6.1)] ?_
     refine dq [] [] (.hs 99 0 [] 1 0 1) rfl (e_buildSlice rfl (bs_mk (f:=I) (xs:=[]) (z:=I (0)) (es:=[I (u6.1)]) (ws:=[I (u6.1)]) rfl rfl rfl (by decide) rfl (abs_each_plain rfl) rfl)) ?_
     obtain ⟨a11,ha11,h⟩:=bS h
     refine dq [67,99] [67] (.hs 115 0 [] 1 0 ((a11).map I).length) rfl (e_append rfl rfl rfl rfl rfl (ap_hsM (path:=[]) (f:=I) (xs:=a10) (ys:=[u6.1]) rfl rfl (take_hs rfl rfl rfl) rfl rfl rfl (ra_n) rfl (by decide) I_cells ha11 rfl (to_n))) ?_ (w_app rfl (aw_hs (path:=[]) (f:=I) (xs:=[u6.1]) rfl rfl (ra_n) I_flat rfl))
     refine dk 2 [42,41] [I (u6.2.1),.hs 2 0 [] 1 0 ((u6.2.2).map I).length] ?_
     obtain ⟨s12,hs12,h⟩:=bS h
     refine dq [2] [] (.hs 2 0 [] 1 (0 + Int.toNat (u6.2.1)) (Int.toNat (len u6.2.2) - Int.toNat (u6.2.1))) rfl (e_slice rfl rfl rfl rfl (sl_hsM (f:=I) (xs:=u6.2.2) rfl rfl rfl rfl (bd_n rfl) hs12)) ?_
     obtain ⟨p13,hp13,h⟩:=bS h
     obtain ⟨a14,ha14,h⟩:=bS h
     refine dq [115,2] [115] (.hs 179 0 [] 1 0 ((a14).map I).length) rfl (e_append rfl rfl rfl rfl rfl (ap_hsM (path:=[]) (f:=I) (xs:=a11) (ys:=p13) rfl rfl (take_pt (path:=[]) (f:=I) (xs:=u6.2.2) rfl rfl (ra_n) hp13 I_flat) rfl rfl rfl (ra_n) rfl (by decide) I_cells ha14 rfl (to_n))) ?_ (w_app rfl (aw_hs (path:=[]) (f:=I) (xs:=u6.2.2) rfl rfl (ra_n) I_flat rfl))
     refine dk 1 [4] [.hs 179 0 [] 1 0 ((a14).map I).length] ?_
     refine de 211 rfl rfl ?_
     obtain rfl:=Option.some.inj h
     exact s_ret rfl ⟨_,fin (vs:=[.hs 179 0 [] 1 0 ((a14).map I).length]) rfl (absE (abs1 rfl (abs_hs rfl rfl)) (absEN)) rfl (ou_1 rfl (oc_no rfl) (ou_f (ou_n))),kl_d (kl_n)⟩
 have r7 : ∀ r',y7=.inl r'→∀ st,Ffcc_Q (l_8,n_9) r' st→(Ffcc_Q (l_8,n_9) r) st:=fun r' e st hq=>by rw [hy71 r' e] at hq; exact hq
 replace h:=hy7
 refine sp 24 h rfl (fun h=>?_) (fun h=>?_)
 · refine cq 2 [25,26] [.hs 2 0 [] 1 0 ((u6.2.2).map I).length,I (u6.2.1)] 115 ?_
   obtain ⟨e15,he15,h⟩:=bS h
   refine oy 131 (.hp 2 0 [] 1 (0 + Int.toNat (u6.2.1)) 0) rfl (e_indexAddr rfl rfl rfl (ix_hsM (f:=I) (xs:=u6.2.2) rfl rfl rfl he15)) ?_
   refine oy 147 (I (e15)) rfl (e_ld rfl (ld_at (path:=[]) rfl rfl rfl (ra_n) (get_map (f:=I) (xs:=u6.2.2) he15) rfl rfl rfl)) ?_
   refine cq 4 [31] [B ((e15 == u6.1))] 195 ?_
   exact rg [0,1,5,31] [196,2] (j7 _ (Option.some.inj h).symm :)
 · refine cq 8 [31] [B (false)] 195 ?_
   exact rg [0,1,5,31] [196,2] (j7 _ (Option.some.inj h).symm :)
theorem Ffcc_good {G : Go.Ln.Ground} : Good Try.prog G 75 Ffcc_ent:=good_T (fnOf_good (gl_n)) agree_mk (Checked.mixed Try.checked) Try.func75 (n:=2) (m:=1) ⟨rfl,rfl,by decide⟩ (fun _=>⟨rfl,rfl⟩) (fun a r h=>Ffcc_run a.1 a.2 r h)
def Ffcm_A : ((List Int) × (List Int))→List V:=cA (slE I) (oA (slE I))
def Ffcm_R (r : (List Int)) : V × List V:=(.usl 1 ((r).map I),[])
noncomputable def Ffcm_ent : Ent:=entT [false,false] Ffcm_A Ffcm_R fun x=>Ffcm x.1 x.2
theorem Ffcm_F {a_1 : List Int} {b_2 : List Int} {r} (h : Ffcm a_1 b_2=some r) : (Ffcm_ent).F (Ffcm_A (a_1,b_2))=some (Ffcm_R r):=entT_F (cA_inj (isl_inj I_inj) (oA_inj (isl_inj I_inj))) h
noncomputable def Ffcm_c : Code:=bodyOf Try.f52
noncomputable def Ffcm_E : Env:=mkE Try.prog [(74,Ffcb_ent),(75,Ffcc_ent)]
def Ffcm_Q (x : (List Int) × (List Int)) (r : (List Int)) : St→Prop:=QF Ffcm_E Try.f52 [false,false] (Ffcm_A x) (Ffcm_R r)
theorem Ffcm_la_run (a_1 : List Int) (b_2 : List Int)  {Q : St→Prop} {K : List It} (hK : noD K=true) : ∀ (x4 : Int × (List Int)) (y : ((List Int)) ⊕ ((List Int))),Ffcm_la a_1 b_2 x4=some y→(∀ r',y=.inl r'→∀ st,Ffcm_Q (a_1,b_2) r' st→Q st)→(∀ u : (List Int),y=.inr u→Run Ffcm_E 0 Q K (sT 22 [(5,.hs 1 0 [] 1 0 ((u).map I).length)] [⟨0,1,(u).map I⟩] 2))→Run Ffcm_E 0 Q (.code (cL (cL (cR (cL (cR (cR Ffcm_c)))))) :: .lp (cL (cL (cR (cL (cR (cR Ffcm_c)))))) :: .blk 0 :: K) (sT 22 [(1,.isl false ((b_2).map I)),(5,.hs 1 0 [] 1 0 ((x4.2).map I).length),(6,I (x4.1))] [⟨0,1,(x4.2).map I⟩] 2):=by
 refine fix_indP (Ffcm_la_fin a_1 b_2) ?_
 intro self ih x4 y h hr hn
 unfold Ffcm_la_F at h
 refine cq 5 [9,10] [I (x4.1),.isl false ((b_2).map I)] 34 ?_
 refine oq 50 (I ((len b_2))) rfl (e_len rfl rfl rfl (l_isl rfl)) ?_
 refine cq 2 [12] [B ((decide (x4.1 < (len b_2))))] 66 ?_
 refine sq h (fun h=>?_) (fun h=>?_)
 · refine aq 1 ?_
   refine cq 6 [15,16,17] [.hs 1 0 [] 1 0 ((x4.2).map I).length,.isl false ((b_2).map I),I (x4.1)] 114 ?_
   obtain ⟨e5,he5,h⟩:=bS h
   refine oq 130 (.iptr (I (e5)) 0) rfl (e_indexAddr rfl rfl rfl (ix_islE rfl rfl rfl rfl he5)) ?_
   refine cq 1 [19] [I (e5)] 146 ?_
   obtain ⟨r6,hr6,h⟩:=bS h
   refine oq 162 (.hs 146 0 [] 1 0 ((r6).map I).length) rfl (e_callV rfl rfl (call_P rfl rfl rfl (avO (hd1 rfl (hd_hs (path:=[]) rfl rfl (ra_n) rfl)) (avS (shP rfl) (avN))) (Ffcc_F hr6) (.inr rfl) (bl_c rfl rfl rfl bk_dead (bl_n)) rfl rfl rfl)) ?_
   refine cq 8 [5,6] [.hs 146 0 [] 1 0 ((r6).map I).length,I ((w64 (x4.1 + 1)))] 226 ?_
   refine s_lp ?_
   exact rf [1,5,6] [146] (ih _ _ h hr hn :)
 · refine aq 1 ?_
   exact rf [5] [1] (hn _ (Option.some.inj h).symm :) (hk:=hK)
theorem Ffcm_run (a_1 : List Int) (b_2 : List Int) (r : (List Int)) (h : Ffcm a_1 b_2=some r) : RunF Ffcm_E Try.f52 [false,false] 0 (Ffcm_A (a_1,b_2)) (Ffcm_R r):=by
 show Run _ _ (Ffcm_Q (a_1,b_2) r) [.code Ffcm_c] _
 refine rin (n:=22) [(0,.isl false ((a_1).map I)),(1,.isl false ((b_2).map I))] [] 1 (by kernel_rfl) (by kernel_rfl) (by kernel_rfl) rfl ?_
 unfold Ffcm at h
 refine cq 7 [7] [.isl false ((a_1).map I)] 33 ?_
 obtain ⟨r3,hr3,h⟩:=bS h
 refine oq 49 (.hs 33 0 [] 1 0 ((r3).map I).length) rfl (e_callV rfl rfl (call_P rfl rfl rfl (avS (shP rfl) (avN)) (Ffcb_F hr3) (.inr rfl) (bl_n) rfl rfl rfl)) ?_
 refine cq 8 [5,6] [.hs 33 0 [] 1 0 ((r3).map I).length,I (0)] 81 ?_
 obtain ⟨y7,hy7,hy71,hy72⟩:=bJ h
 refine s_loop rfl ?_
 refine rf [1,5,6] [33] (Ffcm_la_run a_1 b_2 rfl (0,r3) _ hy7 (fun r' e st hq=>by rw [hy71 r' e] at hq; exact hq) fun u7 hu=>?_)
 replace h:=hy72 u7 hu
 refine cq 5 [4] [.hs 1 0 [] 1 0 ((u7).map I).length] 34 ?_
 obtain rfl:=Option.some.inj h
 exact s_ret rfl ⟨_,fin (vs:=[.hs 1 0 [] 1 0 ((u7).map I).length]) rfl (absE (abs1 rfl (abs_hs rfl rfl)) (absEN)) rfl (ou_f (ou_f (ou_n))),kl_n⟩
theorem Ffcm_good {G : Go.Ln.Ground} : Good Try.prog G 52 Ffcm_ent:=good_T (fnOf_good (gl_c Ffcb_good (gl_c Ffcc_good (gl_n)))) agree_mk (Checked.mixed Try.checked) Try.func52 (n:=2) (m:=0) ⟨rfl,rfl,by decide⟩ (fun _=>⟨rfl,rfl⟩) (fun a r h=>Ffcm_run a.1 a.2 r h)
def Ffbo_A : (Calendar × Calendar)→List V:=cA encI_Calendar (oA encI_Calendar)
def Ffbo_R (r : Calendar × Bool) : V × List V:=(.tup [encO_Calendar r.1,B (r.2)],[])
noncomputable def Ffbo_ent : Ent:=entT [false,false] Ffbo_A Ffbo_R fun x=>Ffbo x.1 x.2
theorem Ffbo_F {a_1 : Calendar} {b_2 : Calendar} {r} (h : Ffbo a_1 b_2=some r) : (Ffbo_ent).F (Ffbo_A (a_1,b_2))=some (Ffbo_R r):=entT_F (cA_inj encI_Calendar_inj (oA_inj encI_Calendar_inj)) h
noncomputable def Ffbo_c : Code:=bodyOf Try.f20
noncomputable def Ffbo_E : Env:=mkE Try.prog [(41,Ffcj_ent),(52,Ffcm_ent)]
def Ffbo_Q (x : Calendar × Calendar) (r : Calendar × Bool) : St→Prop:=QF Ffbo_E Try.f20 [false,false] (Ffbo_A x) (Ffbo_R r)
theorem Ffbo_run (a_1 : Calendar) (b_2 : Calendar) (r : Calendar × Bool) (h : Ffbo a_1 b_2=some r) : RunF Ffbo_E Try.f20 [false,false] 0 (Ffbo_A (a_1,b_2)) (Ffbo_R r):=by
 show Run _ _ (Ffbo_Q (a_1,b_2) r) [.code Ffbo_c] _
 refine rin (n:=32) [(0,encI_Calendar a_1),(1,encI_Calendar b_2)] [] 1 (by kernel_rfl) (by kernel_rfl) (by kernel_rfl) rfl ?_
 unfold Ffbo at h
 refine ck 5 [2,3,4] [] [1,17,33] [] [.hp 1 0 [] 2 0 0,.hp 17 0 [] 2 0 0,.hp 33 0 [] 2 0 0] [some ⟨0,2,[encI_Calendar a_1]⟩,some ⟨0,2,[encI_Calendar b_2]⟩,some ⟨0,2,[.agg [.isl true [],.isl true []]]⟩] 49 (by kernel_rfl) ?_
 refine run_row 33 [.agg [.usl 1 (([]).map I),.usl 1 (([]).map I)]] rfl rfl (cvs_c (cv_agg (cvs_c (.nil _) (cvs_c (.nil _) (cvs_n)))) cvs_n) ?_
 refine cq 6 [7] [encI_Calendar a_1] 81 ?_
 obtain ⟨r3,hr3,h⟩:=bS h
 refine oq 97 (B (r3)) rfl (e_callV rfl rfl (call_P rfl rfl rfl (avS (shP rfl) (avN)) (Ffcj_F hr3) (.inr rfl) (bl_n) rfl rfl rfl)) ?_
 refine cq 2 [10] [B ((!r3))] 129 ?_
 obtain ⟨y4,hy4,hy41,hy42⟩:=bJ h
 have j4 : ∀ u4,y4=.inr u4→Run Ffbo_E 0 (Ffbo_Q (a_1,b_2) r) (.code (cR (cL (cR Ffbo_c))) :: .code (cR (cR Ffbo_c)) :: []) (sT 32 [(2,.hp 1 0 [] 2 0 0),(3,.hp 2 0 [] 2 0 0),(4,.hp 3 0 [] 2 0 0),(14,B (u4))] [⟨0,2,[encI_Calendar a_1]⟩,⟨0,2,[encI_Calendar b_2]⟩,⟨0,2,[.agg [.usl 1 (([]).map I),.usl 1 (([]).map I)]]⟩] 4):=by
   intro u4 hu
   replace h:=hy42 u4 hu
   refine sq h (fun h=>?_) (fun h=>?_)
   · refine ck 4 [] [] [3] [] [] [some ⟨1,2,[.agg [.isl true [],.isl true []]]⟩] 36 (by kernel_rfl) ?_
     refine run_row 3 [.agg [.usl 1 (([]).map I),.usl 1 (([]).map I)]] rfl rfl (cvs_c (cv_agg (cvs_c (.nil _) (cvs_c (.nil _) (cvs_n)))) cvs_n) ?_
     refine cq 2 [5] [B (false)] 52 ?_
     obtain rfl:=Option.some.inj h
     exact s_ret rfl ⟨_,fin (vs:=[.agg [.hs 3 2 [(0,0)] 1 0 (([]).map I).length,.hs 3 2 [(0,1)] 1 0 (([]).map I).length],B (false)]) (rs_c (rs_cell rfl rfl rfl) (rs_c (rfl) (rs_n))) (absE (absA (absC (abs_at (path:=[(0,0)]) rfl rfl (ra_c rfl rfl (ra_n)) rfl (to_c (path:=[]) (i:=0) (k:=0) (e':=.agg [.dead,.usl 1 (([]).map I)]) (es2':=[.agg [.dead,.usl 1 (([]).map I)]]) (ra_n) rfl rfl rfl (sr_n))) (absC (abs_at (path:=[(0,1)]) rfl rfl (ra_c rfl rfl (ra_n)) rfl (to_c (path:=[]) (i:=0) (k:=1) (e':=.agg [.dead,.dead]) (es2':=[.agg [.dead,.dead]]) (ra_n) rfl rfl rfl (sr_n))) (absN)))) (absE (absorb_plain rfl) (absEN))) rfl (ou_f (ou_f (ou_n))),kl_n⟩
   · refine aq 1 ?_
     refine aq 1 ?_
     refine s_draw [0,1,0,4,15,0,32,0,128,511,1023,0,4095] rfl (by decide +kernel) ?_
     refine dq [1] [] (.hp 1 0 [] 2 0 0) rfl (e_fieldAddr rfl rfl rfl) ?_
     refine dq [1] [] (.isl false ((a_1.Weekend).map I)) rfl (e_ld rfl rfl) ?_
     refine dq [2] [] (.hp 2 0 [] 2 0 0) rfl (e_fieldAddr rfl rfl rfl) ?_
     refine dq [2] [] (.isl false ((b_2.Weekend).map I)) rfl (e_ld rfl rfl) ?_
     obtain ⟨r5,hr5,h⟩:=bS h
     refine dq [] [] (.hs 68 0 [] 1 0 ((r5).map I).length) rfl (e_callV rfl rfl (call_P rfl rfl rfl (avS (shP rfl) (avS (shP rfl) (avN))) (Ffcm_F hr5) (.inr rfl) (bl_n) rfl rfl rfl)) ?_ (w_callO rfl rfl rfl rfl (avS (shP rfl) (avS (shP rfl) (avN))) (Ffcm_F hr5) (.inr rfl) rfl)
     refine dq [1] [] (.hp 1 0 [] 2 0 1) rfl (e_fieldAddr rfl rfl rfl) ?_
     refine dq [1] [] (.isl false ((a_1.Holidays).map I)) rfl (e_ld rfl rfl) ?_
     refine dq [2] [] (.hp 2 0 [] 2 0 1) rfl (e_fieldAddr rfl rfl rfl) ?_
     refine dq [2] [] (.isl false ((b_2.Holidays).map I)) rfl (e_ld rfl rfl) ?_
     obtain ⟨r6,hr6,h⟩:=bS h
     refine dq [] [] (.hs 148 0 [] 1 0 ((r6).map I).length) rfl (e_callV rfl rfl (call_P rfl rfl rfl (avS (shP rfl) (avS (shP rfl) (avN))) (Ffcm_F hr6) (.inr rfl) (bl_n) rfl rfl rfl)) ?_ (w_callO rfl rfl rfl rfl (avS (shP rfl) (avS (shP rfl) (avN))) (Ffcm_F hr6) (.inr rfl) rfl)
     refine dk 1 [26] [.agg [.hs 68 0 [] 1 0 ((r5).map I).length,.hs 148 0 [] 1 0 ((r6).map I).length]] ?_
     refine dq [] [] (.hp 180 0 [] 2 0 0) rfl (e_allocP (z:=.agg [.isl true [],.isl true []]) rfl rfl rfl) ?_
     refine dz [180,68,148] [180,68,148] rfl (e_st rfl rfl (st_at (path:=[]) (pl:=false) (e':=.agg [.usl 1 ((r5).map I),.usl 1 ((r6).map I)]) (es2':=[.agg [.usl 1 ((r5).map I),.usl 1 ((r6).map I)]]) rfl (absA (absC (abs_hs rfl rfl) (absC (abs_hs rfl rfl) (absN)))) rfl rfl rfl (ra_n) rfl rfl rfl rfl rfl (sr_n) 1 rfl)) ?_
     refine de 212 rfl rfl ?_
     refine cq 4 [27] [.agg [.hs 180 1 [(0,0)] 1 0 ((r5).map I).length,.hs 180 1 [(0,1)] 1 0 ((r6).map I).length]] 228 ?_
     obtain ⟨r7,hr7,h⟩:=bS h
     refine oq 244 (B (r7)) rfl (e_callV rfl rfl (call_P rfl rfl rfl (avS (shA (shC (sh_at (path:=[(0,0)]) rfl rfl (ra_c rfl rfl (ra_n)) rfl (imms_of (f:=I) I_imm)) (shC (sh_at (path:=[(0,1)]) rfl rfl (ra_c rfl rfl (ra_n)) rfl (imms_of (f:=I) I_imm)) (shN)))) (avN)) (Ffcj_F hr7) (.inl (rfl)) (bl_n) rfl rfl rfl)) ?_
     refine cq 2 [29] [B ((!r7))] 260 ?_
     refine sq h (fun h=>?_) (fun h=>?_)
     · refine ck 4 [] [] [3] [] [] [some ⟨1,2,[.agg [.isl true [],.isl true []]]⟩] 292 (by kernel_rfl) ?_
       refine run_row 3 [.agg [.usl 1 (([]).map I),.usl 1 (([]).map I)]] rfl rfl (cvs_c (cv_agg (cvs_c (.nil _) (cvs_c (.nil _) (cvs_n)))) cvs_n) ?_
       refine cq 2 [5] [B (false)] 308 ?_
       obtain rfl:=Option.some.inj h
       exact s_ret rfl ⟨_,fin (vs:=[.agg [.hs 3 2 [(0,0)] 1 0 (([]).map I).length,.hs 3 2 [(0,1)] 1 0 (([]).map I).length],B (false)]) (rs_c (rs_cell rfl rfl rfl) (rs_c (rfl) (rs_n))) (absE (absA (absC (abs_at (path:=[(0,0)]) rfl rfl (ra_c rfl rfl (ra_n)) rfl (to_c (path:=[]) (i:=0) (k:=0) (e':=.agg [.dead,.usl 1 (([]).map I)]) (es2':=[.agg [.dead,.usl 1 (([]).map I)]]) (ra_n) rfl rfl rfl (sr_n))) (absC (abs_at (path:=[(0,1)]) rfl rfl (ra_c rfl rfl (ra_n)) rfl (to_c (path:=[]) (i:=0) (k:=1) (e':=.agg [.dead,.dead]) (es2':=[.agg [.dead,.dead]]) (ra_n) rfl rfl rfl (sr_n))) (absN)))) (absE (absorb_plain rfl) (absEN))) rfl (ou_f (ou_f (ou_n))),kl_n⟩
     · refine aq 1 ?_
       refine cq 3 [31] [.agg [.hs 180 1 [(0,0)] 1 0 ((r5).map I).length,.hs 180 1 [(0,1)] 1 0 ((r6).map I).length]] 276 ?_
       refine o0 292 rfl rfl (e_st rfl rfl (st_at (path:=[]) (pl:=false) (e':=.agg [.usl 1 ((r5).map I),.usl 1 ((r6).map I)]) (es2':=[.agg [.usl 1 ((r5).map I),.usl 1 ((r6).map I)]]) rfl (absA (absC (abs_at (path:=[(0,0)]) rfl rfl (ra_c rfl rfl (ra_n)) rfl (to_c (path:=[]) (i:=0) (k:=0) (e':=.agg [.dead,.usl 1 ((r6).map I)]) (es2':=[.agg [.dead,.usl 1 ((r6).map I)]]) (ra_n) rfl rfl rfl (sr_n))) (absC (abs_at (path:=[(0,1)]) rfl rfl (ra_c rfl rfl (ra_n)) rfl (to_c (path:=[]) (i:=0) (k:=1) (e':=.agg [.dead,.dead]) (es2':=[.agg [.dead,.dead]]) (ra_n) rfl rfl rfl (sr_n))) (absN)))) rfl rfl rfl (ra_n) rfl rfl rfl rfl rfl (sr_n) 1 rfl)) ?_
       refine cq 2 [5] [B (true)] 308 ?_
       obtain rfl:=Option.some.inj h
       exact s_ret rfl ⟨_,fin (vs:=[.agg [.hs 3 1 [(0,0)] 1 0 ((r5).map I).length,.hs 3 1 [(0,1)] 1 0 ((r6).map I).length],B (true)]) (rs_c (rs_cell rfl rfl rfl) (rs_c (rfl) (rs_n))) (absE (absA (absC (abs_at (path:=[(0,0)]) rfl rfl (ra_c rfl rfl (ra_n)) rfl (to_c (path:=[]) (i:=0) (k:=0) (e':=.agg [.dead,.usl 1 ((r6).map I)]) (es2':=[.agg [.dead,.usl 1 ((r6).map I)]]) (ra_n) rfl rfl rfl (sr_n))) (absC (abs_at (path:=[(0,1)]) rfl rfl (ra_c rfl rfl (ra_n)) rfl (to_c (path:=[]) (i:=0) (k:=1) (e':=.agg [.dead,.dead]) (es2':=[.agg [.dead,.dead]]) (ra_n) rfl rfl rfl (sr_n))) (absN)))) (absE (absorb_plain rfl) (absEN))) rfl (ou_f (ou_f (ou_n))),kl_n⟩
 have r4 : ∀ r',y4=.inl r'→∀ st,Ffbo_Q (a_1,b_2) r' st→(Ffbo_Q (a_1,b_2) r) st:=fun r' e st hq=>by rw [hy41 r' e] at hq; exact hq
 replace h:=hy4
 refine sp 10 h rfl (fun h=>?_) (fun h=>?_)
 · refine cq 5 [14] [B (true)] 193 ?_
   exact rf [2,3,4,14] [1,17,33] (j4 _ (Option.some.inj h).symm :)
 · refine cq 1 [11] [encI_Calendar b_2] 145 ?_
   obtain ⟨r8,hr8,h⟩:=bS h
   refine oy 161 (B (r8)) rfl (e_callV rfl rfl (call_P rfl rfl rfl (avS (shP rfl) (avN)) (Ffcj_F hr8) (.inr rfl) (bl_n) rfl rfl rfl)) ?_
   refine cq 3 [14] [B ((!r8))] 193 ?_
   exact rf [2,3,4,14] [1,17,33] (j4 _ (Option.some.inj h).symm :)
theorem Ffbo_good {G : Go.Ln.Ground} : Good Try.prog G 20 Ffbo_ent:=good_T (fnOf_good (gl_c Ffcj_good (gl_c Ffcm_good (gl_n)))) agree_mk (Checked.mixed Try.checked) Try.func20 (n:=2) (m:=0) ⟨rfl,rfl,by decide⟩ (fun _=>⟨rfl,rfl⟩) (fun a r h=>Ffbo_run a.1 a.2 r h)
def Ffe_A : (Calendar × Int)→List V:=cA encI_Calendar (oA I)
def Ffe_R (r : Bool × Bool) : V × List V:=(.tup [B (r.1),B (r.2)],[])
noncomputable def Ffe_ent : Ent:=entT [false,false] Ffe_A Ffe_R fun x=>Ffe x.1 x.2
theorem Ffe_F {c_1 : Calendar} {day_2 : Int} {r} (h : Ffe c_1 day_2=some r) : (Ffe_ent).F (Ffe_A (c_1,day_2))=some (Ffe_R r):=entT_F (cA_inj encI_Calendar_inj (oA_inj I_inj)) h
noncomputable def Ffe_c : Code:=bodyOf Try.f21
noncomputable def Ffe_E : Env:=mkE Try.prog [(35,Fff_ent),(49,Ffh_ent),(26,Ffi_ent)]
def Ffe_Q (x : Calendar × Int) (r : Bool × Bool) : St→Prop:=QF Ffe_E Try.f21 [false,false] (Ffe_A x) (Ffe_R r)
theorem Ffe_run (c_1 : Calendar) (day_2 : Int) (r : Bool × Bool) (h : Ffe c_1 day_2=some r) : RunF Ffe_E Try.f21 [false,false] 0 (Ffe_A (c_1,day_2)) (Ffe_R r):=by
 show Run _ _ (Ffe_Q (c_1,day_2) r) [.code Ffe_c] _
 refine rin (n:=17) [(0,encI_Calendar c_1),(1,I (day_2))] [] 1 (by kernel_rfl) (by kernel_rfl) (by kernel_rfl) rfl ?_
 unfold Ffe at h
 refine ck 10 [2,6] [] [1] [] [.hp 1 0 [] 2 0 0,encI_Calendar c_1] [some ⟨0,2,[encI_Calendar c_1]⟩] 65 (by kernel_rfl) ?_
 obtain ⟨r3,hr3,h⟩:=bS h
 refine oq 81 (B (r3)) rfl (e_callV rfl rfl (call_P rfl rfl rfl (avS (shP rfl) (avN)) (Fff_F hr3) (.inr rfl) (bl_n) rfl rfl rfl)) ?_
 refine cq 2 [9] [B ((!r3))] 113 ?_
 obtain ⟨y4,hy4,hy41,hy42⟩:=bJ h
 have j4 : ∀ u4,y4=.inr u4→Run Ffe_E 0 (Ffe_Q (c_1,day_2) r) (.code (cR (cL (cR Ffe_c))) :: .code (cR (cR Ffe_c)) :: []) (sT 17 [(1,I (day_2)),(2,.hp 1 0 [] 2 0 0),(13,B (u4))] [⟨0,2,[encI_Calendar c_1]⟩] 2):=by
   intro u4 hu
   replace h:=hy42 u4 hu
   refine sq h (fun h=>?_) (fun h=>?_)
   · refine cq 5 [4,5] [B (false),B (false)] 34 ?_
     obtain rfl:=Option.some.inj h
     exact s_ret rfl ⟨_,fin (vs:=[B (false),B (false)]) rfl (absE (absorb_plain rfl) (absE (absorb_plain rfl) (absEN))) rfl (ou_f (ou_f (ou_n))),kl_n⟩
   · refine aq 1 ?_
     refine cq 4 [14,15] [encI_Calendar c_1,I (day_2)] 34 ?_
     obtain ⟨r5,hr5,h⟩:=bS h
     refine oq 50 (B (r5)) rfl (e_callV rfl rfl (call_P rfl rfl rfl (avS (shP rfl) (avS (shP rfl) (avN))) (Ffh_F hr5) (.inr rfl) (bl_n) rfl rfl rfl)) ?_
     refine cq 3 [4,5] [B (r5),B (true)] 82 ?_
     obtain rfl:=Option.some.inj h
     exact s_ret rfl ⟨_,fin (vs:=[B (r5),B (true)]) rfl (absE (absorb_plain rfl) (absE (absorb_plain rfl) (absEN))) rfl (ou_f (ou_f (ou_n))),kl_n⟩
 have r4 : ∀ r',y4=.inl r'→∀ st,Ffe_Q (c_1,day_2) r' st→(Ffe_Q (c_1,day_2) r) st:=fun r' e st hq=>by rw [hy41 r' e] at hq; exact hq
 replace h:=hy4
 refine sp 9 h rfl (fun h=>?_) (fun h=>?_)
 · refine cq 5 [13] [B (true)] 177 ?_
   exact rf [1,2,13] [1] (j4 _ (Option.some.inj h).symm :)
 · refine cq 1 [10] [I (day_2)] 129 ?_
   obtain ⟨r6,hr6,h⟩:=bS h
   refine oy 145 (B (r6)) rfl (e_callV rfl rfl (call_P rfl rfl rfl (avS (shP rfl) (avN)) (Ffi_F hr6) (.inr rfl) (bl_n) rfl rfl rfl)) ?_
   refine cq 3 [13] [B ((!r6))] 177 ?_
   exact rf [1,2,13] [1] (j4 _ (Option.some.inj h).symm :)
theorem Ffe_good {G : Go.Ln.Ground} : Good Try.prog G 21 Ffe_ent:=good_T (fnOf_good (gl_c Fff_good (gl_c Ffh_good (gl_c Ffi_good (gl_n))))) agree_mk (Checked.mixed Try.checked) Try.func21 (n:=2) (m:=0) ⟨rfl,rfl,by decide⟩ (fun _=>⟨rfl,rfl⟩) (fun a r h=>Ffe_run a.1 a.2 r h)
def laws_FnBusinessDays_A : ((List Int))→List V:=oA (slE (V.int .u8))
def laws_FnBusinessDays_R (r : Bool) : V × List V:=(B (r),[])
noncomputable def laws_FnBusinessDays_ent : Ent:=entT [false] laws_FnBusinessDays_A laws_FnBusinessDays_R fun x=>laws_FnBusinessDays x
theorem laws_FnBusinessDays_F {code_1 : List Int} {r} (h : laws_FnBusinessDays code_1=some r) : (laws_FnBusinessDays_ent).F (laws_FnBusinessDays_A code_1)=some (laws_FnBusinessDays_R r):=entT_F (oA_inj (isl_inj (vint_inj (k:=.u8)))) h
noncomputable def laws_FnBusinessDays_c : Code:=bodyOf Try.f4
noncomputable abbrev laws_FnBusinessDays_ka : Code:=cR (cR (cR (cR (cR (cR laws_FnBusinessDays_c)))))
noncomputable abbrev laws_FnBusinessDays_kb : Code:=cL (cL (cR (cL (cR (cR (cR laws_FnBusinessDays_ka))))))
noncomputable abbrev laws_FnBusinessDays_kc : Code:=cR (cR laws_FnBusinessDays_kb)
noncomputable abbrev laws_FnBusinessDays_kd : Code:=cR (cR (cR (cR (cL (cL (cR laws_FnBusinessDays_kb))))))
noncomputable def laws_FnBusinessDays_E : Env:=mkE Try.prog [(5,laws_vBig_ent),(15,Ffbl_ent),(13,Ffc_ent),(16,Ffbk_ent),(18,Ffbn_ent),(19,Ffg_ent),(20,Ffbo_ent),(21,Ffe_ent),(17,Ffd_ent)]
def laws_FnBusinessDays_Q (x : (List Int)) (r : Bool) : St→Prop:=QF laws_FnBusinessDays_E Try.f4 [false] (laws_FnBusinessDays_A x) (laws_FnBusinessDays_R r)
theorem laws_FnBusinessDays_la_run (code_1 : List Int) (r3 : Calendar × Int × Int) (r9 : Calendar × Calendar) (r10 : Calendar × Bool) {Q : St→Prop} {K : List It} (hK : noD K=true) : ∀ (x13 : Int) (y : Bool ⊕ Unit),laws_FnBusinessDays_la code_1 r3 r9 r10 x13=some y→(∀ r',y=.inl r'→∀ st,laws_FnBusinessDays_Q code_1 r' st→Q st)→(∀ u : Unit,y=.inr u→Run laws_FnBusinessDays_E 0 Q K (sT 149 [] [] 1))→Run laws_FnBusinessDays_E 0 Q (.code laws_FnBusinessDays_kb :: .lp laws_FnBusinessDays_kb :: .blk 0 :: K) (sT 149 [(4,I (r3.2.1)),(12,.hp 1 0 [] 2 0 0),(13,.hp 2 0 [] 2 0 0),(14,.hp 3 0 [] 2 0 0),(18,I (x13))] [⟨0,2,[encO_Calendar r9.1]⟩,⟨0,2,[encO_Calendar r9.2]⟩,⟨0,2,[encO_Calendar r10.1]⟩] 4):=by
 refine fix_indP (laws_FnBusinessDays_la_fin code_1 r3 r9 r10) ?_
 intro self ih x13 y h hr hn
 unfold laws_FnBusinessDays_la_F at h
 refine cq 8 [112] [B ((decide (x13 < (w64 (r3.2.1 + 4)))))] 68 ?_
 refine sq h (fun h=>?_) (fun h=>?_)
 · refine aq 1 ?_
   refine cq 6 [116,117] [.agg [.hs 1 0 [(0,0)] 1 0 ((r9.1.Weekend).map I).length,.hs 1 0 [(0,1)] 1 0 ((r9.1.Holidays).map I).length],I (x13)] 100 ?_
   obtain ⟨r14,hr14,h⟩:=bS h
   refine oq 116 (.tup [B (r14.1),B (r14.2)]) rfl (e_callV rfl rfl (call_P rfl rfl rfl (avS (shA (shC (sh_at (path:=[(0,0)]) rfl rfl (ra_c rfl rfl (ra_n)) rfl (imms_of (f:=I) I_imm)) (shC (sh_at (path:=[(0,1)]) rfl rfl (ra_c rfl rfl (ra_n)) rfl (imms_of (f:=I) I_imm)) (shN)))) (avS (shP rfl) (avN))) (Ffe_F hr14) (.inl (rfl)) (bl_n) rfl rfl rfl)) ?_
   refine cq 10 [19,20,122,123] [B (r14.1),B (r14.2),.agg [.hs 2 0 [(0,0)] 1 0 ((r9.2.Weekend).map I).length,.hs 2 0 [(0,1)] 1 0 ((r9.2.Holidays).map I).length],I (x13)] 228 ?_
   obtain ⟨r15,hr15,h⟩:=bS h
   refine oq 244 (.tup [B (r15.1),B (r15.2)]) rfl (e_callV rfl rfl (call_P rfl rfl rfl (avS (shA (shC (sh_at (path:=[(0,0)]) rfl rfl (ra_c rfl rfl (ra_n)) rfl (imms_of (f:=I) I_imm)) (shC (sh_at (path:=[(0,1)]) rfl rfl (ra_c rfl rfl (ra_n)) rfl (imms_of (f:=I) I_imm)) (shN)))) (avS (shP rfl) (avN))) (Ffe_F hr15) (.inl (rfl)) (bl_n) rfl rfl rfl)) ?_
   refine cq 10 [21,22,128,129] [B (r15.1),B (r15.2),.agg [.hs 3 0 [(0,0)] 1 0 ((r10.1.Weekend).map I).length,.hs 3 0 [(0,1)] 1 0 ((r10.1.Holidays).map I).length],I (x13)] 356 ?_
   obtain ⟨r16,hr16,h⟩:=bS h
   refine oq 372 (.tup [B (r16.1),B (r16.2)]) rfl (e_callV rfl rfl (call_P rfl rfl rfl (avS (shA (shC (sh_at (path:=[(0,0)]) rfl rfl (ra_c rfl rfl (ra_n)) rfl (imms_of (f:=I) I_imm)) (shC (sh_at (path:=[(0,1)]) rfl rfl (ra_c rfl rfl (ra_n)) rfl (imms_of (f:=I) I_imm)) (shN)))) (avS (shP rfl) (avN))) (Ffe_F hr16) (.inl (rfl)) (bl_n) rfl rfl rfl)) ?_
   refine cq 12 [23,24,136] [B (r16.1),B (r16.2),B ((!(r14.2 == r16.2)))] 516 ?_
   obtain ⟨u17,hu17,h⟩:=lJ h
   have j17 : Run laws_FnBusinessDays_E 0 Q (.code laws_FnBusinessDays_kd :: .blk 1 :: .code laws_FnBusinessDays_kc :: .lp laws_FnBusinessDays_kb :: .blk 0 :: K) (sT 149 [(4,I (r3.2.1)),(12,.hp 1 0 [] 2 0 0),(13,.hp 2 0 [] 2 0 0),(14,.hp 3 0 [] 2 0 0),(18,I (x13)),(148,B (u17))] [⟨0,2,[encO_Calendar r9.1]⟩,⟨0,2,[encO_Calendar r9.2]⟩,⟨0,2,[encO_Calendar r10.1]⟩] 4):=by
     refine sq h (fun h=>?_) (fun h=>?_)
     · refine cq 4 [2] [B (false)] 20 ?_
       exact s_ret rfl (hr _ (Option.some.inj h).symm _ ⟨_,fin (vs:=[B (false)]) rfl (absE (absorb_plain rfl) (absEN)) rfl (ou_f (ou_n)),kl_n⟩)
     · refine aq 1 ?_
       refine cq 6 [18] [I ((w64 (x13 + 1)))] 52 ?_
       refine s_lp ?_
       exact rf [4,12,13,14,18] [1,2,3] (ih _ _ h hr hn :)
   replace h:=hu17
   clear hu17
   refine sp 136 h rfl (fun h=>?_) (fun h=>?_)
   · refine cq 13 [148] [B (true)] 708 ?_
     subst h
     exact rf [4,12,13,14,18,148] [1,2,3] (j17 :)
   · refine cq 5 [141] [B ((!(r15.2 == r16.2)))] 596 ?_
     obtain ⟨u18,hu18,h⟩:=lJ h
     have j18 : Run laws_FnBusinessDays_E 0 Q (.code laws_FnBusinessDays_kd :: .blk 1 :: .code laws_FnBusinessDays_kc :: .lp laws_FnBusinessDays_kb :: .blk 0 :: K) (sT 149 [(4,I (r3.2.1)),(12,.hp 1 0 [] 2 0 0),(13,.hp 2 0 [] 2 0 0),(14,.hp 3 0 [] 2 0 0),(18,I (x13)),(148,B (u18))] [⟨0,2,[encO_Calendar r9.1]⟩,⟨0,2,[encO_Calendar r9.2]⟩,⟨0,2,[encO_Calendar r10.1]⟩] 4):=by
       subst h
       exact rf [4,12,13,14,18,148] [1,2,3] (j17 :)
     replace h:=hu18
     clear hu18
     refine sp 141 h rfl (fun h=>?_) (fun h=>?_)
     · refine cq 8 [148] [B (true)] 708 ?_
       subst h
       exact rf [4,12,13,14,18,148] [1,2,3] (j18 :)
     · refine cq 3 [142,144] [B (r16.1),B (r14.1)] 644 ?_
       obtain ⟨u19,hu19,h⟩:=lJ h
       have j19 : Run laws_FnBusinessDays_E 0 Q (.code laws_FnBusinessDays_kd :: .blk 1 :: .code laws_FnBusinessDays_kc :: .lp laws_FnBusinessDays_kb :: .blk 0 :: K) (sT 149 [(4,I (r3.2.1)),(12,.hp 1 0 [] 2 0 0),(13,.hp 2 0 [] 2 0 0),(14,.hp 3 0 [] 2 0 0),(18,I (x13)),(148,B (u19))] [⟨0,2,[encO_Calendar r9.1]⟩,⟨0,2,[encO_Calendar r9.2]⟩,⟨0,2,[encO_Calendar r10.1]⟩] 4):=by
         subst h
         exact rf [4,12,13,14,18,148] [1,2,3] (j18 :)
       replace h:=hu19
       clear hu19
       refine sp 144 h rfl (fun h=>?_) (fun h=>?_)
       · refine cq 5 [148] [B ((!(r16.1 == r15.1)))] 708 ?_
         subst h
         exact rf [4,12,13,14,18,148] [1,2,3] (j19 :)
       · refine cq 5 [148] [B ((!(r16.1 == false)))] 708 ?_
         subst h
         exact rf [4,12,13,14,18,148] [1,2,3] (j19 :)
 · refine aq 1 ?_
   exact rf [] [] (hn _ (Option.some.inj h).symm :) (hk:=hK)
theorem laws_FnBusinessDays_run (code_1 : List Int) (r : Bool) (h : laws_FnBusinessDays code_1=some r) : RunF laws_FnBusinessDays_E Try.f4 [false] 0 (laws_FnBusinessDays_A code_1) (laws_FnBusinessDays_R r):=by
 show Run _ _ (laws_FnBusinessDays_Q code_1 r) [.code laws_FnBusinessDays_c] _
 refine rin (n:=149) [(0,.isl false ((code_1).map (V.int .u8)))] [] 1 (by kernel_rfl) (by kernel_rfl) (by kernel_rfl) rfl ?_
 unfold laws_FnBusinessDays at h
 refine cq 8 [25] [.isl false ((code_1).map (V.int .u8))] 33 ?_
 obtain ⟨r2,hr2,h⟩:=bS h
 refine oq 49 (B (r2)) rfl (e_callV rfl rfl (call_P rfl rfl rfl (avS (shP rfl) (avN)) (laws_vBig_F hr2) (.inr rfl) (bl_n) rfl rfl rfl)) ?_
 refine aq 1 ?_
 refine sq h (fun h=>?_) (fun h=>?_)
 · refine cq 4 [2] [B (true)] 65 ?_
   obtain rfl:=Option.some.inj h
   exact s_ret rfl ⟨_,fin (vs:=[B (true)]) rfl (absE (absorb_plain rfl) (absEN)) rfl (ou_f (ou_n)),kl_n⟩
 · refine aq 1 ?_
   refine cq 3 [28] [.isl false ((code_1).map (V.int .u8))] 65 ?_
   obtain ⟨r3,hr3,h⟩:=bS h
   refine oq 81 (.tup [.agg [.hs 65 0 [] 1 0 ((r3.1.Weekend).map I).length,.hs 66 0 [] 1 0 ((r3.1.Holidays).map I).length],I (r3.2.1),I (r3.2.2)]) rfl (e_callV rfl rfl (call_P rfl rfl rfl (avS (shP rfl) (avN)) (Ffbl_F hr3) (.inr rfl) (bl_n) rfl rfl rfl)) ?_
   refine ck 5 [3,30,31,32] [] [145] [] [.hp 145 0 [] 2 0 0,.agg [.hs 65 0 [] 1 0 ((r3.1.Weekend).map I).length,.hs 66 0 [] 1 0 ((r3.1.Holidays).map I).length],I (r3.2.1),I (r3.2.2)] [some ⟨0,2,[.agg [.isl true [],.isl true []]]⟩] 161 (by kernel_rfl) ?_
   refine run_row 145 [.agg [.usl 1 (([]).map I),.usl 1 (([]).map I)]] rfl rfl (cvs_c (cv_agg (cvs_c (.nil _) (cvs_c (.nil _) (cvs_n)))) cvs_n) ?_
   refine o0 177 rfl rfl (e_st rfl rfl (st_at (path:=[]) (pl:=false) (e':=encO_Calendar r3.1) (es2':=[encO_Calendar r3.1]) rfl (absA (absC (abs_hs rfl rfl) (absC (abs_hs rfl rfl) (absN)))) rfl rfl rfl (ra_n) rfl rfl rfl rfl rfl (sr_n) 2 rfl)) ?_
   refine cq 8 [4,5,34,35,36] [I (r3.2.1),I (r3.2.2),.agg [.hs 145 2 [(0,0)] 1 0 ((r3.1.Weekend).map I).length,.hs 145 2 [(0,1)] 1 0 ((r3.1.Holidays).map I).length],I (r3.2.1),I (r3.2.2)] 257 ?_
   obtain ⟨r4,hr4,h⟩:=bS h
   refine oq 273 (.tup [I (r4.1),B (r4.2)]) rfl (e_callV rfl rfl (call_P rfl rfl rfl (avS (shA (shC (sh_at (path:=[(0,0)]) rfl rfl (ra_c rfl rfl (ra_n)) rfl (imms_of (f:=I) I_imm)) (shC (sh_at (path:=[(0,1)]) rfl rfl (ra_c rfl rfl (ra_n)) rfl (imms_of (f:=I) I_imm)) (shN)))) (avS (shP rfl) (avS (shP rfl) (avN)))) (Ffc_F hr4) (.inl (rfl)) (bl_n) rfl rfl rfl)) ?_
   refine cq 12 [6,7,41,42,43] [I (r4.1),B (r4.2),.agg [.hs 145 2 [(0,0)] 1 0 ((r3.1.Weekend).map I).length,.hs 145 2 [(0,1)] 1 0 ((r3.1.Holidays).map I).length],I (r3.2.1),I (r3.2.2)] 401 ?_
   obtain ⟨r5,hr5,h⟩:=bS h
   refine oq 417 (.tup [I (r5.1),B (r5.2)]) rfl (e_callV rfl rfl (call_P rfl rfl rfl (avS (shA (shC (sh_at (path:=[(0,0)]) rfl rfl (ra_c rfl rfl (ra_n)) rfl (imms_of (f:=I) I_imm)) (shC (sh_at (path:=[(0,1)]) rfl rfl (ra_c rfl rfl (ra_n)) rfl (imms_of (f:=I) I_imm)) (shN)))) (avS (shP rfl) (avS (shP rfl) (avN)))) (Ffbk_F hr5) (.inl (rfl)) (bl_n) rfl rfl rfl)) ?_
   refine cq 12 [9,50] [B (r5.2),B ((r4.1 != r5.1))] 561 ?_
   obtain ⟨u6,hu6,h⟩:=lJ h
   have j6 : Run laws_FnBusinessDays_E 0 (laws_FnBusinessDays_Q code_1 r) (.code (cR (cR (cL (cR (cR (cR (cR laws_FnBusinessDays_c))))))) :: .code (cR (cR (cR (cR (cR laws_FnBusinessDays_c))))) :: []) (sT 149 [(0,.isl false ((code_1).map (V.int .u8))),(3,.hp 1 0 [] 2 0 0),(4,I (r3.2.1)),(5,I (r3.2.2)),(6,I (r4.1)),(7,B (r4.2)),(54,B (u6))] [⟨0,2,[encO_Calendar r3.1]⟩] 2):=by
     refine sq h (fun h=>?_) (fun h=>?_)
     · refine cq 4 [2] [B (false)] 18 ?_
       obtain rfl:=Option.some.inj h
       exact s_ret rfl ⟨_,fin (vs:=[B (false)]) rfl (absE (absorb_plain rfl) (absEN)) rfl (ou_f (ou_n)),kl_n⟩
     · refine aq 1 ?_
       refine cq 5 [56] [B (r4.2)] 34 ?_
       obtain ⟨u7,hu7,h⟩:=lJ h
       have j7 : Run laws_FnBusinessDays_E 0 (laws_FnBusinessDays_Q code_1 r) (.code (cR (cL (cR (cR (cR (cR (cR laws_FnBusinessDays_c))))))) :: .code laws_FnBusinessDays_ka :: []) (sT 149 [(0,.isl false ((code_1).map (V.int .u8))),(3,.hp 1 0 [] 2 0 0),(4,I (r3.2.1)),(5,I (r3.2.2)),(6,I (r4.1)),(63,B (u7))] [⟨0,2,[encO_Calendar r3.1]⟩] 2):=by
         obtain ⟨y8,hy8,hy81,hy82⟩:=bJ h
         have j8 : ∀ u8,y8=.inr u8→Run laws_FnBusinessDays_E 0 (laws_FnBusinessDays_Q code_1 r) (.code laws_FnBusinessDays_ka :: []) (sT 149 [(0,.isl false ((code_1).map (V.int .u8))),(4,I (r3.2.1))] [] 1):=by
           intro u8 hu
           replace h:=hy82 u8 hu
           refine cq 3 [81] [.isl false ((code_1).map (V.int .u8))] 17 ?_
           obtain ⟨r9,hr9,h⟩:=bS h
           refine oq 33 (.tup [.agg [.hs 17 0 [] 1 0 ((r9.1.Weekend).map I).length,.hs 18 0 [] 1 0 ((r9.1.Holidays).map I).length],.agg [.hs 19 0 [] 1 0 ((r9.2.Weekend).map I).length,.hs 20 0 [] 1 0 ((r9.2.Holidays).map I).length]]) rfl (e_callV rfl rfl (call_P rfl rfl rfl (avS (shP rfl) (avN)) (Ffbn_F hr9) (.inr rfl) (bl_n) rfl rfl rfl)) ?_
           refine ck 4 [12,83,84] [] [81] [] [.hp 81 0 [] 2 0 0,.agg [.hs 17 0 [] 1 0 ((r9.1.Weekend).map I).length,.hs 18 0 [] 1 0 ((r9.1.Holidays).map I).length],.agg [.hs 19 0 [] 1 0 ((r9.2.Weekend).map I).length,.hs 20 0 [] 1 0 ((r9.2.Holidays).map I).length]] [some ⟨0,2,[.agg [.isl true [],.isl true []]]⟩] 97 (by kernel_rfl) ?_
           refine run_row 81 [.agg [.usl 1 (([]).map I),.usl 1 (([]).map I)]] rfl rfl (cvs_c (cv_agg (cvs_c (.nil _) (cvs_c (.nil _) (cvs_n)))) cvs_n) ?_
           refine ck 1 [13] [] [97] [] [.hp 97 0 [] 2 0 0] [some ⟨0,2,[.agg [.isl true [],.isl true []]]⟩] 113 (by kernel_rfl) ?_
           refine run_row 97 [.agg [.usl 1 (([]).map I),.usl 1 (([]).map I)]] rfl rfl (cvs_c (cv_agg (cvs_c (.nil _) (cvs_c (.nil _) (cvs_n)))) cvs_n) ?_
           refine o0 129 rfl rfl (e_st rfl rfl (st_at (path:=[]) (pl:=false) (e':=encO_Calendar r9.1) (es2':=[encO_Calendar r9.1]) rfl (absA (absC (abs_hs rfl rfl) (absC (abs_hs rfl rfl) (absN)))) rfl rfl rfl (ra_n) rfl rfl rfl rfl rfl (sr_n) 2 rfl)) ?_
           refine o0 145 rfl rfl (e_st rfl rfl (st_at (path:=[]) (pl:=false) (e':=encO_Calendar r9.2) (es2':=[encO_Calendar r9.2]) rfl (absA (absC (abs_hs rfl rfl) (absC (abs_hs rfl rfl) (absN)))) rfl rfl rfl (ra_n) rfl rfl rfl rfl rfl (sr_n) 2 rfl)) ?_
           refine cq 5 [86,87] [.agg [.hs 81 2 [(0,0)] 1 0 ((r9.1.Weekend).map I).length,.hs 81 2 [(0,1)] 1 0 ((r9.1.Holidays).map I).length],.agg [.hs 97 2 [(0,0)] 1 0 ((r9.2.Weekend).map I).length,.hs 97 2 [(0,1)] 1 0 ((r9.2.Holidays).map I).length]] 177 ?_
           obtain ⟨r10,hr10,h⟩:=bS h
           refine oq 193 (.tup [.agg [.hs 177 0 [] 1 0 ((r10.1.Weekend).map I).length,.hs 178 0 [] 1 0 ((r10.1.Holidays).map I).length],B (r10.2)]) rfl (e_callV rfl rfl (call_P rfl rfl rfl (avS (shA (shC (sh_at (path:=[(0,0)]) rfl rfl (ra_c rfl rfl (ra_n)) rfl (imms_of (f:=I) I_imm)) (shC (sh_at (path:=[(0,1)]) rfl rfl (ra_c rfl rfl (ra_n)) rfl (imms_of (f:=I) I_imm)) (shN)))) (avS (shA (shC (sh_at (path:=[(0,0)]) rfl rfl (ra_c rfl rfl (ra_n)) rfl (imms_of (f:=I) I_imm)) (shC (sh_at (path:=[(0,1)]) rfl rfl (ra_c rfl rfl (ra_n)) rfl (imms_of (f:=I) I_imm)) (shN)))) (avN))) (Ffg_F hr10) (.inl (by simp [hasImm,hasImms,str,himm_map (f:=I) I_himm,encO_Calendar])) (bl_n) rfl rfl rfl)) ?_
           refine ck 4 [14,89,90] [] [241] [] [.hp 241 0 [] 2 0 0,.agg [.hs 177 0 [] 1 0 ((r10.1.Weekend).map I).length,.hs 178 0 [] 1 0 ((r10.1.Holidays).map I).length],B (r10.2)] [some ⟨0,2,[.agg [.isl true [],.isl true []]]⟩] 257 (by kernel_rfl) ?_
           refine run_row 241 [.agg [.usl 1 (([]).map I),.usl 1 (([]).map I)]] rfl rfl (cvs_c (cv_agg (cvs_c (.nil _) (cvs_c (.nil _) (cvs_n)))) cvs_n) ?_
           refine o0 273 rfl rfl (e_st rfl rfl (st_at (path:=[]) (pl:=false) (e':=encO_Calendar r10.1) (es2':=[encO_Calendar r10.1]) rfl (absA (absC (abs_hs rfl rfl) (absC (abs_hs rfl rfl) (absN)))) rfl rfl rfl (ra_n) rfl rfl rfl rfl rfl (sr_n) 2 rfl)) ?_
           refine cq 7 [15,92,93] [B (r10.2),.agg [.hs 81 2 [(0,0)] 1 0 ((r9.1.Weekend).map I).length,.hs 81 2 [(0,1)] 1 0 ((r9.1.Holidays).map I).length],.agg [.hs 97 2 [(0,0)] 1 0 ((r9.2.Weekend).map I).length,.hs 97 2 [(0,1)] 1 0 ((r9.2.Holidays).map I).length]] 321 ?_
           obtain ⟨r11,hr11,h⟩:=bS h
           refine oq 337 (.tup [.agg [.hs 321 0 [] 1 0 ((r11.1.Weekend).map I).length,.hs 322 0 [] 1 0 ((r11.1.Holidays).map I).length],B (r11.2)]) rfl (e_callV rfl rfl (call_P rfl rfl rfl (avS (shA (shC (sh_at (path:=[(0,0)]) rfl rfl (ra_c rfl rfl (ra_n)) rfl (imms_of (f:=I) I_imm)) (shC (sh_at (path:=[(0,1)]) rfl rfl (ra_c rfl rfl (ra_n)) rfl (imms_of (f:=I) I_imm)) (shN)))) (avS (shA (shC (sh_at (path:=[(0,0)]) rfl rfl (ra_c rfl rfl (ra_n)) rfl (imms_of (f:=I) I_imm)) (shC (sh_at (path:=[(0,1)]) rfl rfl (ra_c rfl rfl (ra_n)) rfl (imms_of (f:=I) I_imm)) (shN)))) (avN))) (Ffbo_F hr11) (.inl (by simp [hasImm,hasImms,str,himm_map (f:=I) I_himm,encO_Calendar])) (bl_n) rfl rfl rfl)) ?_
           refine ck 4 [16,95,96] [] [385] [] [.hp 385 0 [] 2 0 0,.agg [.hs 321 0 [] 1 0 ((r11.1.Weekend).map I).length,.hs 322 0 [] 1 0 ((r11.1.Holidays).map I).length],B (r11.2)] [some ⟨0,2,[.agg [.isl true [],.isl true []]]⟩] 401 (by kernel_rfl) ?_
           refine run_row 385 [.agg [.usl 1 (([]).map I),.usl 1 (([]).map I)]] rfl rfl (cvs_c (cv_agg (cvs_c (.nil _) (cvs_c (.nil _) (cvs_n)))) cvs_n) ?_
           refine o0 417 rfl rfl (e_st rfl rfl (st_at (path:=[]) (pl:=false) (e':=encO_Calendar r11.1) (es2':=[encO_Calendar r11.1]) rfl (absA (absC (abs_hs rfl rfl) (absC (abs_hs rfl rfl) (absN)))) rfl rfl rfl (ra_n) rfl rfl rfl rfl rfl (sr_n) 2 rfl)) ?_
           refine cq 8 [17,100] [B (r11.2),B ((!(r10.2 == r11.2)))] 497 ?_
           obtain ⟨u12,hu12,h⟩:=lJ h
           have j12 : Run laws_FnBusinessDays_E 0 (laws_FnBusinessDays_Q code_1 r) (.code (cR (cR (cL (cR (cR laws_FnBusinessDays_ka))))) :: .code (cR (cR (cR laws_FnBusinessDays_ka))) :: []) (sT 149 [(4,I (r3.2.1)),(12,.hp 1 0 [] 2 0 0),(13,.hp 2 0 [] 2 0 0),(14,.hp 3 0 [] 2 0 0),(15,B (r10.2)),(17,B (r11.2)),(103,B (u12))] [⟨0,2,[encO_Calendar r9.1]⟩,⟨0,2,[encO_Calendar r9.2]⟩,⟨0,2,[encO_Calendar r10.1]⟩] 4):=by
             refine sq h (fun h=>?_) (fun h=>?_)
             · refine cq 7 [2] [B ((r10.2 == r11.2))] 68 ?_
               obtain rfl:=Option.some.inj h
               exact s_ret rfl ⟨_,fin (vs:=[B ((r10.2 == r11.2))]) rfl (absE (absorb_plain rfl) (absEN)) rfl (ou_f (ou_n)),kl_n⟩
             · refine aq 1 ?_
               refine cq 8 [18] [I ((w64 (r3.2.1 - 3)))] 52 ?_
               obtain ⟨y20,hy20,hy201,hy202⟩:=bJ h
               refine s_loop rfl ?_
               refine rf [4,12,13,14,18] [1,2,3] (laws_FnBusinessDays_la_run code_1 r3 r9 r10 rfl (w64 (r3.2.1 - 3)) _ hy20 (fun r' e st hq=>by rw [hy201 r' e] at hq; exact hq) fun u20 hu=>?_)
               replace h:=hy202 u20 hu
               refine cq 4 [2] [B (true)] 17 ?_
               obtain rfl:=Option.some.inj h
               exact s_ret rfl ⟨_,fin (vs:=[B (true)]) rfl (absE (absorb_plain rfl) (absEN)) rfl (ou_f (ou_n)),kl_n⟩
           replace h:=hu12
           clear hu12
           refine sp 100 h rfl (fun h=>?_) (fun h=>?_)
           · refine cq 4 [103] [B (true)] 545 ?_
             subst h
             exact rf [4,12,13,14,15,17,103] [81,97,241] (j12 :)
           · refine cq 4 [103] [B ((!r10.2))] 545 ?_
             subst h
             exact rf [4,12,13,14,15,17,103] [81,97,241] (j12 :)
         have r8 : ∀ r',y8=.inl r'→∀ st,laws_FnBusinessDays_Q code_1 r' st→(laws_FnBusinessDays_Q code_1 r) st:=fun r' e st hq=>by rw [hy81 r' e] at hq; exact hq
         replace h:=hy8
         refine sq h (fun h=>?_) (fun h=>?_)
         · refine cq 7 [65,67,69] [.agg [.hs 1 0 [(0,0)] 1 0 ((r3.1.Weekend).map I).length,.hs 1 0 [(0,1)] 1 0 ((r3.1.Holidays).map I).length],I ((w64 (r3.2.1 + 1))),I ((w64 (r4.1 + 1)))] 82 ?_
           obtain ⟨r21,hr21,h⟩:=bS h
           refine oq 98 (.tup [I (r21.1),B (r21.2)]) rfl (e_callV rfl rfl (call_P rfl rfl rfl (avS (shA (shC (sh_at (path:=[(0,0)]) rfl rfl (ra_c rfl rfl (ra_n)) rfl (imms_of (f:=I) I_imm)) (shC (sh_at (path:=[(0,1)]) rfl rfl (ra_c rfl rfl (ra_n)) rfl (imms_of (f:=I) I_imm)) (shN)))) (avS (shP rfl) (avS (shP rfl) (avN)))) (Ffd_F hr21) (.inl (rfl)) (bl_n) rfl rfl rfl)) ?_
           refine cq 11 [10,75] [I (r21.1),B ((!r21.2))] 226 ?_
           obtain ⟨u22,hu22,h⟩:=lJ h
           have j22 : Run laws_FnBusinessDays_E 0 (laws_FnBusinessDays_Q code_1 r) (.code (cR (cR (cL (cR (cL (cR (cR (cR (cR (cR laws_FnBusinessDays_c)))))))))) :: .code laws_FnBusinessDays_ka :: []) (sT 149 [(0,.isl false ((code_1).map (V.int .u8))),(4,I (r3.2.1)),(79,B (u22))] [] 1):=by
             refine sq h (fun h=>?_) (fun h=>?_)
             · refine cq 4 [2] [B (false)] 17 ?_
               exact s_ret rfl (r8 _ (Option.some.inj h).symm _ ⟨_,fin (vs:=[B (false)]) rfl (absE (absorb_plain rfl) (absEN)) rfl (ou_f (ou_n)),kl_n⟩)
             · refine aq 1 ?_
               exact rf [0,4] [] (j8 _ (Option.some.inj h).symm :)
           replace h:=hu22
           clear hu22
           refine sp 75 h rfl (fun h=>?_) (fun h=>?_)
           · refine cq 5 [79] [B (true)] 290 ?_
             subst h
             exact rf [0,4,79] [] (j22 :)
           · refine cq 5 [79] [B ((r21.1 != r3.2.2))] 290 ?_
             subst h
             exact rf [0,4,79] [] (j22 :)
         · refine aq 1 ?_
           exact rf [0,4] [] (j8 _ (Option.some.inj h).symm :)
       replace h:=hu7
       clear hu7
       refine sp 56 h rfl (fun h=>?_) (fun h=>?_)
       · refine cq 4 [60] [B ((decide (r3.2.2 > 0)))] 98 ?_
         obtain ⟨u23,hu23,h⟩:=lJ h
         have j23 : Run laws_FnBusinessDays_E 0 (laws_FnBusinessDays_Q code_1 r) (.code (cR (cL (cR (cR (cR (cR (cR laws_FnBusinessDays_c))))))) :: .code laws_FnBusinessDays_ka :: []) (sT 149 [(0,.isl false ((code_1).map (V.int .u8))),(3,.hp 1 0 [] 2 0 0),(4,I (r3.2.1)),(5,I (r3.2.2)),(6,I (r4.1)),(63,B (u23))] [⟨0,2,[encO_Calendar r3.1]⟩] 2):=by
           subst h
           exact rf [0,3,4,5,6,63] [1] (j7 :)
         replace h:=hu23
         clear hu23
         refine sp 60 h rfl (fun h=>?_) (fun h=>?_)
         · refine cq 4 [63] [B ((decide (r4.1 < 36524)))] 146 ?_
           subst h
           exact rf [0,3,4,5,6,63] [1] (j23 :)
         · refine cq 4 [63] [B (false)] 146 ?_
           subst h
           exact rf [0,3,4,5,6,63] [1] (j23 :)
       · refine cq 8 [63] [B (false)] 146 ?_
         subst h
         exact rf [0,3,4,5,6,63] [1] (j7 :)
   replace h:=hu6
   clear hu6
   refine sp 50 h rfl (fun h=>?_) (fun h=>?_)
   · refine cq 5 [54] [B (true)] 625 ?_
     subst h
     exact rf [0,3,4,5,6,7,54] [145] (j6 :)
   · refine cq 5 [54] [B ((!(r4.2 == r5.2)))] 625 ?_
     subst h
     exact rf [0,3,4,5,6,7,54] [145] (j6 :)
theorem laws_FnBusinessDays_good {G : Go.Ln.Ground} : Good Try.prog G 4 laws_FnBusinessDays_ent:=good_T (fnOf_good (gl_c laws_vBig_good (gl_c Ffbl_good (gl_c Ffc_good (gl_c Ffbk_good (gl_c Ffbn_good (gl_c Ffg_good (gl_c Ffbo_good (gl_c Ffe_good (gl_c Ffd_good (gl_n))))))))))) agree_mk (Checked.mixed Try.checked) Try.func4 (n:=1) (m:=0) ⟨rfl,rfl,by decide⟩ (fun _=>⟨rfl,rfl⟩) (fun a r h=>laws_FnBusinessDays_run a r h)
end Go.Ln
