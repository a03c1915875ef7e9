/-
  Each function of the program computes its plain function.
-/
import Derived.Test.YtgcnameabpnpaaaDoorFnExactMergeEventsRunA
set_option maxHeartbeats 4000000
set_option linter.unusedVariables false
set_option linter.unusedSimpArgs false
set_option maxRecDepth 100000
namespace Go.Ln
open Go Go.Proofs
theorem Ffbr_lc_run (data_16 : List Event) (a_17 : Int) (b_18 : Int) (cmp_19 : Unit) (x5 : Int × Int × Int × Int × (List Event)) (u11 : Int) {Q : St→Prop} {K : List It} (hK : noD K=true) {x25 : Int × (List Event)} {y : (Bool × (List Event)) ⊕ ((List Event))} (h : Ffbr_lc data_16 a_17 b_18 cmp_19 x5 u11 x25=some y) : (∀ r',y=.inl r'→∀ st,Ffbr_Q (data_16,a_17,b_18,cmp_19) r' st→Q st)→(∀ u : (List Event),y=.inr u→Run Ffbr_E 1 Q K ⟨mkTm .dead 141 [(0,.hs 1 0 [] 4 0 ((u).map enc_Event).length),(1,I (x5.1)),(2,I (x5.2.1)),(3,.fn 52 []),(9,I (u11)),(10,I (x5.2.2.2.1))],mkS (rtL [⟨0,4,(u).map enc_Event⟩] 1),2⟩)→Run Ffbr_E 1 Q (.code (cL (cL (cR (cL (cR (cR (cR (cR (cR (cR (cL (cL (cR (cL (cL (cR (cL (cR (cR Ffbr_c))))))))))))))))))) :: .lp (cL (cL (cR (cL (cR (cR (cR (cR (cR (cR (cL (cL (cR (cL (cL (cR (cL (cR (cR Ffbr_c))))))))))))))))))) :: .blk 6 :: K) ⟨mkTm .dead 141 [(0,.hs 1 0 [] 4 0 ((x25.2).map enc_Event).length),(1,I (x5.1)),(2,I (x5.2.1)),(3,.fn 52 []),(9,I (u11)),(10,I (x5.2.2.2.1)),(12,I (x25.1))],mkS (rtL [⟨0,4,(x25.2).map enc_Event⟩] 1),2⟩:=by
 refine fix_ind (P:=fun (x25 : Int × (List Event)) (y : (Bool × (List Event)) ⊕ ((List Event)))=>(∀ r',y=.inl r'→∀ st,Ffbr_Q (data_16,a_17,b_18,cmp_19) r' st→Q st)→(∀ u : (List Event),y=.inr u→Run Ffbr_E 1 Q K ⟨mkTm .dead 141 [(0,.hs 1 0 [] 4 0 ((u).map enc_Event).length),(1,I (x5.1)),(2,I (x5.2.1)),(3,.fn 52 []),(9,I (u11)),(10,I (x5.2.2.2.1))],mkS (rtL [⟨0,4,(u).map enc_Event⟩] 1),2⟩)→Run Ffbr_E 1 Q (.code (cL (cL (cR (cL (cR (cR (cR (cR (cR (cR (cL (cL (cR (cL (cL (cR (cL (cR (cR Ffbr_c))))))))))))))))))) :: .lp (cL (cL (cR (cL (cR (cR (cR (cR (cR (cR (cL (cL (cR (cL (cL (cR (cL (cR (cR Ffbr_c))))))))))))))))))) :: .blk 6 :: K) ⟨mkTm .dead 141 [(0,.hs 1 0 [] 4 0 ((x25.2).map enc_Event).length),(1,I (x5.1)),(2,I (x5.2.1)),(3,.fn 52 []),(9,I (u11)),(10,I (x5.2.2.2.1)),(12,I (x25.1))],mkS (rtL [⟨0,4,(x25.2).map enc_Event⟩] 1),2⟩) (Ffbr_lc_fin data_16 a_17 b_18 cmp_19 x5 u11) ?_ h
 clear h y x25
 intro self ih x25 y h hr hn
 unfold Ffbr_lc_F at h
 refine c0 7 [109] [B ((decide (x25.1 < x5.2.1)))] 50 (by kernel_rfl) ?_
 refine sc h rfl rfl (fun h=>?_) (fun h=>?_)
 · refine ad 1 rfl ?_
   refine ad 4 rfl ?_
   refine s_draw [0,0,0,6,14,0,0,64,224,480,1023,2047,4095] rfl (by decide +kernel) ?_
   refine dp [] [] (.fn 52 []) rfl (e_move rfl) rfl (rfl) (by decide) ?_
   refine dp [] [] (.hs 1 0 [] 4 0 ((x25.2).map enc_Event).length) rfl (e_move rfl) rfl (rfl) (by decide) ?_
   refine dp [] [] (I (x25.1)) rfl (e_move rfl) rfl (rfl) (by decide) ?_
   obtain ⟨e26,he26,h⟩:=bS h
   refine dp [1] [] (.hp 1 0 [] 4 (0 + Int.toNat (x25.1)) 0) rfl (e_indexAddr rfl rfl rfl (ix_hsM (f:=enc_Event) (xs:=x25.2) rfl rfl rfl he26)) rfl (rfl) (by decide) ?_
   refine dp [1] [] (enc_Event e26) rfl (e_ld rfl (ld_at (path:=[]) rfl rfl rfl (ra_n) (get_map (f:=enc_Event) (xs:=x25.2) he26) rfl rfl rfl)) rfl (rfl) (by decide) ?_
   refine dp [] [] (.hs 1 0 [] 4 0 ((x25.2).map enc_Event).length) rfl (e_move rfl) rfl (rfl) (by decide) ?_
   refine dp [] [] (I (x25.1)) rfl (e_move rfl) rfl (rfl) (by decide) ?_
   refine dp [] [] (I ((w64 (x25.1 - 1)))) rfl (e_bin rfl rfl rfl) rfl (rfl) (by decide) ?_
   obtain ⟨e27,he27,h⟩:=bS h
   refine dp [1] [] (.hp 1 0 [] 4 (0 + Int.toNat ((w64 (x25.1 - 1)))) 0) rfl (e_indexAddr rfl rfl rfl (ix_hsM (f:=enc_Event) (xs:=x25.2) rfl rfl rfl he27)) rfl (rfl) (by decide) ?_
   refine dp [1] [] (enc_Event e27) rfl (e_ld rfl (ld_at (path:=[]) rfl rfl rfl (ra_n) (get_map (f:=enc_Event) (xs:=x25.2) he27) rfl rfl rfl)) rfl (rfl) (by decide) ?_
   obtain ⟨r28,hr28,h⟩:=bS h
   refine dp [] [] (I (r28)) rfl (e_callV rfl rfl (call_P rfl rfl rfl (avS (shP rfl) (avS (shP rfl) (avN))) (Fff_F hr28) (.inr rfl) (bl_n) rfl rfl rfl)) rfl (w_callO rfl rfl rfl rfl (avS (shP rfl) (avS (shP rfl) (avN))) (Fff_F hr28) (.inr rfl) rfl) (by decide) ?_
   refine dp [] [] (B ((decide (r28 < 0)))) rfl (e_bin rfl rfl rfl) rfl (rfl) (by decide) ?_
   refine dp [] [] (B ((!(decide (r28 < 0))))) rfl (e_un rfl rfl) rfl (rfl) (by decide) ?_
   refine de 258 rfl rfl ?_
   refine sc h rfl rfl (fun h=>?_) (fun h=>?_)
   · refine ad 1 rfl ?_
     refine run_forget [0,1,2,3,9,10] [1] [⟨0,4,(x25.2).map enc_Event⟩] rfl rfl rfl hK ?_
     exact hn _ (Option.some.inj h).symm
   · refine ad 1 rfl ?_
     refine s_draw [0,0,0,0,8,0,0,64,224,480,0,0,3072,7168,16355,32739,65535,131071] rfl (by decide +kernel) ?_
     refine dp [] [] (.hs 1 0 [] 4 0 ((x25.2).map enc_Event).length) rfl (e_move rfl) rfl (rfl) (by decide) ?_
     refine dp [] [] (I (x25.1)) rfl (e_move rfl) rfl (rfl) (by decide) ?_
     refine dp [] [] (.hs 1 0 [] 4 0 ((x25.2).map enc_Event).length) rfl (e_move rfl) rfl (rfl) (by decide) ?_
     refine dp [] [] (I (x25.1)) rfl (e_move rfl) rfl (rfl) (by decide) ?_
     refine dp [] [] (I ((w64 (x25.1 - 1)))) rfl (e_bin rfl rfl rfl) rfl (rfl) (by decide) ?_
     refine dp [] [] (.hs 1 0 [] 4 0 ((x25.2).map enc_Event).length) rfl (e_move rfl) rfl (rfl) (by decide) ?_
     refine dp [] [] (I (x25.1)) rfl (e_move rfl) rfl (rfl) (by decide) ?_
     refine dp [] [] (I ((w64 (x25.1 - 1)))) rfl (e_bin rfl rfl rfl) rfl (rfl) (by decide) ?_
     obtain ⟨e29,he29,h⟩:=bS h
     refine dp [1] [] (.hp 1 0 [] 4 (0 + Int.toNat ((w64 (x25.1 - 1)))) 0) rfl (e_indexAddr rfl rfl rfl (ix_hsM (f:=enc_Event) (xs:=x25.2) rfl rfl rfl he29)) rfl (rfl) (by decide) ?_
     refine dp [1] [] (enc_Event e29) rfl (e_ld rfl (ld_at (path:=[]) rfl rfl rfl (ra_n) (get_map (f:=enc_Event) (xs:=x25.2) he29) rfl rfl rfl)) rfl (rfl) (by decide) ?_
     refine dp [] [] (.hs 1 0 [] 4 0 ((x25.2).map enc_Event).length) rfl (e_move rfl) rfl (rfl) (by decide) ?_
     refine dp [] [] (I (x25.1)) rfl (e_move rfl) rfl (rfl) (by decide) ?_
     obtain ⟨e30,he30,h⟩:=bS h
     refine dp [1] [] (.hp 1 0 [] 4 (0 + Int.toNat (x25.1)) 0) rfl (e_indexAddr rfl rfl rfl (ix_hsM (f:=enc_Event) (xs:=x25.2) rfl rfl rfl he30)) rfl (rfl) (by decide) ?_
     refine dp [1] [] (enc_Event e30) rfl (e_ld rfl (ld_at (path:=[]) rfl rfl rfl (ra_n) (get_map (f:=enc_Event) (xs:=x25.2) he30) rfl rfl rfl)) rfl (rfl) (by decide) ?_
     obtain ⟨e31,he31,h⟩:=bS h
     refine dp [1] [] (.hp 1 0 [] 4 (0 + Int.toNat (x25.1)) 0) rfl (e_indexAddr rfl rfl rfl (ix_hsM (f:=enc_Event) (xs:=x25.2) rfl rfl rfl he31)) rfl (rfl) (by decide) ?_
     obtain ⟨w32,hw32⟩ : ∃ w,getI (setI x25.2 x25.1 e29) x25.1=some w:=get_exI he26
     obtain ⟨w33,hw33⟩ : ∃ w,getI (setI x25.2 x25.1 e29) (w64 (x25.1 - 1))=some w:=get_exI he27
     obtain ⟨w34,hw34⟩ : ∃ w,getI (setI x25.2 x25.1 e29) (w64 (x25.1 - 1))=some w:=get_exI he29
     obtain ⟨w35,hw35⟩ : ∃ w,getI (setI x25.2 x25.1 e29) x25.1=some w:=get_exI he30
     refine dp0 [1] [1] rfl (e_st rfl rfl (st_at (path:=[]) (pl:=true) (e':=enc_Event e29) (es2':=((setI x25.2 x25.1 e29)).map enc_Event) rfl (absorb_plain rfl) rfl rfl rfl (ra_n) (get_map (f:=enc_Event) (xs:=x25.2) he31) rfl rfl rfl (set_map (f:=enc_Event) (xs:=x25.2) (y:=e29)) (sr_n) 0 rfl)) rfl (rfl) (by decide) ?_
     try rw [← len_setM (f:=enc_Event) (xs:=x25.2) (i:=x25.1) (z:=e29)]
     obtain ⟨e36,he36,h⟩:=bS h
     refine dp [1] [] (.hp 1 0 [] 4 (0 + Int.toNat ((w64 (x25.1 - 1)))) 0) rfl (e_indexAddr rfl rfl rfl (ix_hsM (f:=enc_Event) (xs:=(setI x25.2 x25.1 e29)) rfl rfl rfl he36)) rfl (rfl) (by decide) ?_
     obtain ⟨w37,hw37⟩ : ∃ w,getI (setI (setI x25.2 x25.1 e29) (w64 (x25.1 - 1)) e30) x25.1=some w:=get_exI hw32
     obtain ⟨w38,hw38⟩ : ∃ w,getI (setI (setI x25.2 x25.1 e29) (w64 (x25.1 - 1)) e30) (w64 (x25.1 - 1))=some w:=get_exI hw33
     obtain ⟨w39,hw39⟩ : ∃ w,getI (setI (setI x25.2 x25.1 e29) (w64 (x25.1 - 1)) e30) (w64 (x25.1 - 1))=some w:=get_exI hw34
     obtain ⟨w40,hw40⟩ : ∃ w,getI (setI (setI x25.2 x25.1 e29) (w64 (x25.1 - 1)) e30) x25.1=some w:=get_exI hw35
     obtain ⟨w41,hw41⟩ : ∃ w,getI (setI (setI x25.2 x25.1 e29) (w64 (x25.1 - 1)) e30) x25.1=some w:=get_exI (get_set he31)
     refine dp0 [1] [1] rfl (e_st rfl rfl (st_at (path:=[]) (pl:=true) (e':=enc_Event e30) (es2':=((setI (setI x25.2 x25.1 e29) (w64 (x25.1 - 1)) e30)).map enc_Event) rfl (absorb_plain rfl) rfl rfl rfl (ra_n) (get_map (f:=enc_Event) (xs:=(setI x25.2 x25.1 e29)) he36) rfl rfl rfl (set_map (f:=enc_Event) (xs:=(setI x25.2 x25.1 e29)) (y:=e30)) (sr_n) 0 rfl)) rfl (rfl) (by decide) ?_
     try rw [← len_setM (f:=enc_Event) (xs:=(setI x25.2 x25.1 e29)) (i:=(w64 (x25.1 - 1))) (z:=e30)]
     refine de 546 rfl rfl ?_
     refine c0 6 [12] [I ((w64 (x25.1 + 1)))] 594 (by kernel_rfl) ?_
     refine s_lp ?_
     refine run_forget [0,1,2,3,9,10,12] [1] [⟨0,4,((setI (setI x25.2 x25.1 e29) (w64 (x25.1 - 1)) e30)).map enc_Event⟩] rfl rfl rfl rfl ?_
     exact ih _ _ h hr hn
 · refine ad 1 rfl ?_
   refine run_forget [0,1,2,3,9,10] [1] [⟨0,4,(x25.2).map enc_Event⟩] rfl rfl rfl hK ?_
   exact hn _ (Option.some.inj h).symm
theorem Ffbr_ld_run (data_16 : List Event) (a_17 : Int) (b_18 : Int) (cmp_19 : Unit) (x5 : Int × Int × Int × Int × (List Event)) (u11 : Int) {Q : St→Prop} {K : List It} (hK : noD K=true) {x43 : Int × (List Event)} {y : (Bool × (List Event)) ⊕ ((List Event))} (h : Ffbr_ld data_16 a_17 b_18 cmp_19 x5 u11 x43=some y) : (∀ r',y=.inl r'→∀ st,Ffbr_Q (data_16,a_17,b_18,cmp_19) r' st→Q st)→(∀ u : (List Event),y=.inr u→Run Ffbr_E 1 Q K ⟨mkTm .dead 141 [(0,.hs 1 0 [] 4 0 ((u).map enc_Event).length),(1,I (x5.1)),(2,I (x5.2.1)),(3,.fn 52 []),(9,I (u11)),(10,I (x5.2.2.2.1))],mkS (rtL [⟨0,4,(u).map enc_Event⟩] 1),2⟩)→Run Ffbr_E 1 Q (.code (cL (cL (cR (cL (cR (cL (cR (cR (cR (cR (cL (cL (cR (cL (cL (cR (cL (cR (cR Ffbr_c))))))))))))))))))) :: .lp (cL (cL (cR (cL (cR (cL (cR (cR (cR (cR (cL (cL (cR (cL (cL (cR (cL (cR (cR Ffbr_c))))))))))))))))))) :: .blk 4 :: K) ⟨mkTm .dead 141 [(0,.hs 1 0 [] 4 0 ((x43.2).map enc_Event).length),(1,I (x5.1)),(2,I (x5.2.1)),(3,.fn 52 []),(9,I (u11)),(10,I (x5.2.2.2.1)),(11,I (x43.1))],mkS (rtL [⟨0,4,(x43.2).map enc_Event⟩] 1),2⟩:=by
 refine fix_ind (P:=fun (x43 : Int × (List Event)) (y : (Bool × (List Event)) ⊕ ((List Event)))=>(∀ r',y=.inl r'→∀ st,Ffbr_Q (data_16,a_17,b_18,cmp_19) r' st→Q st)→(∀ u : (List Event),y=.inr u→Run Ffbr_E 1 Q K ⟨mkTm .dead 141 [(0,.hs 1 0 [] 4 0 ((u).map enc_Event).length),(1,I (x5.1)),(2,I (x5.2.1)),(3,.fn 52 []),(9,I (u11)),(10,I (x5.2.2.2.1))],mkS (rtL [⟨0,4,(u).map enc_Event⟩] 1),2⟩)→Run Ffbr_E 1 Q (.code (cL (cL (cR (cL (cR (cL (cR (cR (cR (cR (cL (cL (cR (cL (cL (cR (cL (cR (cR Ffbr_c))))))))))))))))))) :: .lp (cL (cL (cR (cL (cR (cL (cR (cR (cR (cR (cL (cL (cR (cL (cL (cR (cL (cR (cR Ffbr_c))))))))))))))))))) :: .blk 4 :: K) ⟨mkTm .dead 141 [(0,.hs 1 0 [] 4 0 ((x43.2).map enc_Event).length),(1,I (x5.1)),(2,I (x5.2.1)),(3,.fn 52 []),(9,I (u11)),(10,I (x5.2.2.2.1)),(11,I (x43.1))],mkS (rtL [⟨0,4,(x43.2).map enc_Event⟩] 1),2⟩) (Ffbr_ld_fin data_16 a_17 b_18 cmp_19 x5 u11) ?_ h
 clear h y x43
 intro self ih x43 y h hr hn
 unfold Ffbr_ld_F at h
 refine c0 6 [69] [B ((decide (x43.1 ≥ 1)))] 34 (by kernel_rfl) ?_
 refine sc h rfl rfl (fun h=>?_) (fun h=>?_)
 · refine ad 1 rfl ?_
   refine ad 4 rfl ?_
   refine s_draw [0,0,0,6,14,0,0,64,224,480,1023,2047,4095] rfl (by decide +kernel) ?_
   refine dp [] [] (.fn 52 []) rfl (e_move rfl) rfl (rfl) (by decide) ?_
   refine dp [] [] (.hs 1 0 [] 4 0 ((x43.2).map enc_Event).length) rfl (e_move rfl) rfl (rfl) (by decide) ?_
   refine dp [] [] (I (x43.1)) rfl (e_move rfl) rfl (rfl) (by decide) ?_
   obtain ⟨e44,he44,h⟩:=bS h
   refine dp [1] [] (.hp 1 0 [] 4 (0 + Int.toNat (x43.1)) 0) rfl (e_indexAddr rfl rfl rfl (ix_hsM (f:=enc_Event) (xs:=x43.2) rfl rfl rfl he44)) rfl (rfl) (by decide) ?_
   refine dp [1] [] (enc_Event e44) rfl (e_ld rfl (ld_at (path:=[]) rfl rfl rfl (ra_n) (get_map (f:=enc_Event) (xs:=x43.2) he44) rfl rfl rfl)) rfl (rfl) (by decide) ?_
   refine dp [] [] (.hs 1 0 [] 4 0 ((x43.2).map enc_Event).length) rfl (e_move rfl) rfl (rfl) (by decide) ?_
   refine dp [] [] (I (x43.1)) rfl (e_move rfl) rfl (rfl) (by decide) ?_
   refine dp [] [] (I ((w64 (x43.1 - 1)))) rfl (e_bin rfl rfl rfl) rfl (rfl) (by decide) ?_
   obtain ⟨e45,he45,h⟩:=bS h
   refine dp [1] [] (.hp 1 0 [] 4 (0 + Int.toNat ((w64 (x43.1 - 1)))) 0) rfl (e_indexAddr rfl rfl rfl (ix_hsM (f:=enc_Event) (xs:=x43.2) rfl rfl rfl he45)) rfl (rfl) (by decide) ?_
   refine dp [1] [] (enc_Event e45) rfl (e_ld rfl (ld_at (path:=[]) rfl rfl rfl (ra_n) (get_map (f:=enc_Event) (xs:=x43.2) he45) rfl rfl rfl)) rfl (rfl) (by decide) ?_
   obtain ⟨r46,hr46,h⟩:=bS h
   refine dp [] [] (I (r46)) rfl (e_callV rfl rfl (call_P rfl rfl rfl (avS (shP rfl) (avS (shP rfl) (avN))) (Fff_F hr46) (.inr rfl) (bl_n) rfl rfl rfl)) rfl (w_callO rfl rfl rfl rfl (avS (shP rfl) (avS (shP rfl) (avN))) (Fff_F hr46) (.inr rfl) rfl) (by decide) ?_
   refine dp [] [] (B ((decide (r46 < 0)))) rfl (e_bin rfl rfl rfl) rfl (rfl) (by decide) ?_
   refine dp [] [] (B ((!(decide (r46 < 0))))) rfl (e_un rfl rfl) rfl (rfl) (by decide) ?_
   refine de 242 rfl rfl ?_
   refine sc h rfl rfl (fun h=>?_) (fun h=>?_)
   · refine ad 1 rfl ?_
     refine run_forget [0,1,2,3,9,10] [1] [⟨0,4,(x43.2).map enc_Event⟩] rfl rfl rfl hK ?_
     exact hn _ (Option.some.inj h).symm
   · refine ad 1 rfl ?_
     refine s_draw [0,0,0,0,8,0,0,64,224,480,0,0,3072,7168,16355,32739,65535,131071] rfl (by decide +kernel) ?_
     refine dp [] [] (.hs 1 0 [] 4 0 ((x43.2).map enc_Event).length) rfl (e_move rfl) rfl (rfl) (by decide) ?_
     refine dp [] [] (I (x43.1)) rfl (e_move rfl) rfl (rfl) (by decide) ?_
     refine dp [] [] (.hs 1 0 [] 4 0 ((x43.2).map enc_Event).length) rfl (e_move rfl) rfl (rfl) (by decide) ?_
     refine dp [] [] (I (x43.1)) rfl (e_move rfl) rfl (rfl) (by decide) ?_
     refine dp [] [] (I ((w64 (x43.1 - 1)))) rfl (e_bin rfl rfl rfl) rfl (rfl) (by decide) ?_
     refine dp [] [] (.hs 1 0 [] 4 0 ((x43.2).map enc_Event).length) rfl (e_move rfl) rfl (rfl) (by decide) ?_
     refine dp [] [] (I (x43.1)) rfl (e_move rfl) rfl (rfl) (by decide) ?_
     refine dp [] [] (I ((w64 (x43.1 - 1)))) rfl (e_bin rfl rfl rfl) rfl (rfl) (by decide) ?_
     obtain ⟨e47,he47,h⟩:=bS h
     refine dp [1] [] (.hp 1 0 [] 4 (0 + Int.toNat ((w64 (x43.1 - 1)))) 0) rfl (e_indexAddr rfl rfl rfl (ix_hsM (f:=enc_Event) (xs:=x43.2) rfl rfl rfl he47)) rfl (rfl) (by decide) ?_
     refine dp [1] [] (enc_Event e47) rfl (e_ld rfl (ld_at (path:=[]) rfl rfl rfl (ra_n) (get_map (f:=enc_Event) (xs:=x43.2) he47) rfl rfl rfl)) rfl (rfl) (by decide) ?_
     refine dp [] [] (.hs 1 0 [] 4 0 ((x43.2).map enc_Event).length) rfl (e_move rfl) rfl (rfl) (by decide) ?_
     refine dp [] [] (I (x43.1)) rfl (e_move rfl) rfl (rfl) (by decide) ?_
     obtain ⟨e48,he48,h⟩:=bS h
     refine dp [1] [] (.hp 1 0 [] 4 (0 + Int.toNat (x43.1)) 0) rfl (e_indexAddr rfl rfl rfl (ix_hsM (f:=enc_Event) (xs:=x43.2) rfl rfl rfl he48)) rfl (rfl) (by decide) ?_
     refine dp [1] [] (enc_Event e48) rfl (e_ld rfl (ld_at (path:=[]) rfl rfl rfl (ra_n) (get_map (f:=enc_Event) (xs:=x43.2) he48) rfl rfl rfl)) rfl (rfl) (by decide) ?_
     obtain ⟨e49,he49,h⟩:=bS h
     refine dp [1] [] (.hp 1 0 [] 4 (0 + Int.toNat (x43.1)) 0) rfl (e_indexAddr rfl rfl rfl (ix_hsM (f:=enc_Event) (xs:=x43.2) rfl rfl rfl he49)) rfl (rfl) (by decide) ?_
     obtain ⟨w50,hw50⟩ : ∃ w,getI (setI x43.2 x43.1 e47) x43.1=some w:=get_exI he44
     obtain ⟨w51,hw51⟩ : ∃ w,getI (setI x43.2 x43.1 e47) (w64 (x43.1 - 1))=some w:=get_exI he45
     obtain ⟨w52,hw52⟩ : ∃ w,getI (setI x43.2 x43.1 e47) (w64 (x43.1 - 1))=some w:=get_exI he47
     obtain ⟨w53,hw53⟩ : ∃ w,getI (setI x43.2 x43.1 e47) x43.1=some w:=get_exI he48
     refine dp0 [1] [1] rfl (e_st rfl rfl (st_at (path:=[]) (pl:=true) (e':=enc_Event e47) (es2':=((setI x43.2 x43.1 e47)).map enc_Event) rfl (absorb_plain rfl) rfl rfl rfl (ra_n) (get_map (f:=enc_Event) (xs:=x43.2) he49) rfl rfl rfl (set_map (f:=enc_Event) (xs:=x43.2) (y:=e47)) (sr_n) 0 rfl)) rfl (rfl) (by decide) ?_
     try rw [← len_setM (f:=enc_Event) (xs:=x43.2) (i:=x43.1) (z:=e47)]
     obtain ⟨e54,he54,h⟩:=bS h
     refine dp [1] [] (.hp 1 0 [] 4 (0 + Int.toNat ((w64 (x43.1 - 1)))) 0) rfl (e_indexAddr rfl rfl rfl (ix_hsM (f:=enc_Event) (xs:=(setI x43.2 x43.1 e47)) rfl rfl rfl he54)) rfl (rfl) (by decide) ?_
     obtain ⟨w55,hw55⟩ : ∃ w,getI (setI (setI x43.2 x43.1 e47) (w64 (x43.1 - 1)) e48) x43.1=some w:=get_exI hw50
     obtain ⟨w56,hw56⟩ : ∃ w,getI (setI (setI x43.2 x43.1 e47) (w64 (x43.1 - 1)) e48) (w64 (x43.1 - 1))=some w:=get_exI hw51
     obtain ⟨w57,hw57⟩ : ∃ w,getI (setI (setI x43.2 x43.1 e47) (w64 (x43.1 - 1)) e48) (w64 (x43.1 - 1))=some w:=get_exI hw52
     obtain ⟨w58,hw58⟩ : ∃ w,getI (setI (setI x43.2 x43.1 e47) (w64 (x43.1 - 1)) e48) x43.1=some w:=get_exI hw53
     obtain ⟨w59,hw59⟩ : ∃ w,getI (setI (setI x43.2 x43.1 e47) (w64 (x43.1 - 1)) e48) x43.1=some w:=get_exI (get_set he49)
     refine dp0 [1] [1] rfl (e_st rfl rfl (st_at (path:=[]) (pl:=true) (e':=enc_Event e48) (es2':=((setI (setI x43.2 x43.1 e47) (w64 (x43.1 - 1)) e48)).map enc_Event) rfl (absorb_plain rfl) rfl rfl rfl (ra_n) (get_map (f:=enc_Event) (xs:=(setI x43.2 x43.1 e47)) he54) rfl rfl rfl (set_map (f:=enc_Event) (xs:=(setI x43.2 x43.1 e47)) (y:=e48)) (sr_n) 0 rfl)) rfl (rfl) (by decide) ?_
     try rw [← len_setM (f:=enc_Event) (xs:=(setI x43.2 x43.1 e47)) (i:=(w64 (x43.1 - 1))) (z:=e48)]
     refine de 530 rfl rfl ?_
     refine c0 6 [11] [I ((w64 (x43.1 - 1)))] 578 (by kernel_rfl) ?_
     refine s_lp ?_
     refine run_forget [0,1,2,3,9,10,11] [1] [⟨0,4,((setI (setI x43.2 x43.1 e47) (w64 (x43.1 - 1)) e48)).map enc_Event⟩] rfl rfl rfl rfl ?_
     exact ih _ _ h hr hn
 · refine ad 1 rfl ?_
   refine run_forget [0,1,2,3,9,10] [1] [⟨0,4,(x43.2).map enc_Event⟩] rfl rfl rfl hK ?_
   exact hn _ (Option.some.inj h).symm
theorem Ffbr_la_run (data_16 : List Event) (a_17 : Int) (b_18 : Int) (cmp_19 : Unit)  {Q : St→Prop} {K : List It} (hK : noD K=true) {x5 : Int × Int × Int × Int × (List Event)} {y : (Bool × (List Event)) ⊕ ((List Event))} (h : Ffbr_la data_16 a_17 b_18 cmp_19 x5=some y) : (∀ r',y=.inl r'→∀ st,Ffbr_Q (data_16,a_17,b_18,cmp_19) r' st→Q st)→(∀ u : (List Event),y=.inr u→Run Ffbr_E 1 Q K ⟨mkTm .dead 141 [],mkS (rtL [⟨0,4,(u).map enc_Event⟩] 1),2⟩)→Run Ffbr_E 1 Q (.code (cL (cL (cR (cL (cR (cR Ffbr_c)))))) :: .lp (cL (cL (cR (cL (cR (cR Ffbr_c)))))) :: .blk 0 :: K) ⟨mkTm .dead 141 [(0,.hs 1 0 [] 4 0 ((x5.2.2.2.2).map enc_Event).length),(1,I (x5.1)),(2,I (x5.2.1)),(3,.fn 52 []),(9,I (x5.2.2.1)),(10,I (x5.2.2.2.1))],mkS (rtL [⟨0,4,(x5.2.2.2.2).map enc_Event⟩] 1),2⟩:=by
 refine fix_ind (P:=fun (x5 : Int × Int × Int × Int × (List Event)) (y : (Bool × (List Event)) ⊕ ((List Event)))=>(∀ r',y=.inl r'→∀ st,Ffbr_Q (data_16,a_17,b_18,cmp_19) r' st→Q st)→(∀ u : (List Event),y=.inr u→Run Ffbr_E 1 Q K ⟨mkTm .dead 141 [],mkS (rtL [⟨0,4,(u).map enc_Event⟩] 1),2⟩)→Run Ffbr_E 1 Q (.code (cL (cL (cR (cL (cR (cR Ffbr_c)))))) :: .lp (cL (cL (cR (cL (cR (cR Ffbr_c)))))) :: .blk 0 :: K) ⟨mkTm .dead 141 [(0,.hs 1 0 [] 4 0 ((x5.2.2.2.2).map enc_Event).length),(1,I (x5.1)),(2,I (x5.2.1)),(3,.fn 52 []),(9,I (x5.2.2.1)),(10,I (x5.2.2.2.1))],mkS (rtL [⟨0,4,(x5.2.2.2.2).map enc_Event⟩] 1),2⟩) (Ffbr_la_fin data_16 a_17 b_18 cmp_19) ?_ h
 clear h y x5
 intro self ih x5 y h hr hn
 unfold Ffbr_la_F at h
 refine c0 6 [16] [B ((decide (x5.2.2.2.1 < 5)))] 34 (by kernel_rfl) ?_
 refine sc h rfl rfl (fun h=>?_) (fun h=>?_)
 · refine ad 1 rfl ?_
   refine ad 4 rfl ?_
   obtain ⟨y11,hy11,hy111,hy112⟩:=bL h
   refine s_loop rfl ?_
   refine run_forget [0,1,2,3,9,10] [1] [⟨0,4,(x5.2.2.2.2).map enc_Event⟩] rfl rfl rfl rfl ?_
   refine Ffbr_lb_run data_16 a_17 b_18 cmp_19 x5 rfl hy11 (fun r' e st hq=>hr r' (hy111 r' e) st hq) (fun u11 hu=>?_)
   replace h:=hy112 u11 hu
   refine c0 7 [41] [B ((u11 == x5.2.1))] 50 (by kernel_rfl) ?_
   refine sc h rfl rfl (fun h=>?_) (fun h=>?_)
   · refine c0 4 [8] [B (true)] 66 (by kernel_rfl) ?_
     obtain ⟨g12,h⟩:=gG h
     exact s_ret rfl (hr _ (Option.some.inj h).symm _ ⟨_,fin (vs:=[B (true)]) rfl (absE (absorb_plain rfl) (absEN)) rfl (ou_1 rfl (oc_hsG (f:=enc_Event) (xs:=x5.2.2.2.2) (by simpa using g12) rfl) (ou_f (ou_f (ou_f (ou_n))))),kl_c (kl_n)⟩)
   · refine ad 1 rfl ?_
     refine c0 8 [45] [B ((decide ((w64 (x5.2.1 - x5.1)) < 50)))] 114 (by kernel_rfl) ?_
     refine sc h rfl rfl (fun h=>?_) (fun h=>?_)
     · refine c0 4 [8] [B (false)] 130 (by kernel_rfl) ?_
       obtain ⟨g13,h⟩:=gG h
       exact s_ret rfl (hr _ (Option.some.inj h).symm _ ⟨_,fin (vs:=[B (false)]) rfl (absE (absorb_plain rfl) (absEN)) rfl (ou_1 rfl (oc_hsG (f:=enc_Event) (xs:=x5.2.2.2.2) (by simpa using g13) rfl) (ou_f (ou_f (ou_f (ou_n))))),kl_c (kl_n)⟩)
     · refine ad 1 rfl ?_
       refine ad 1 rfl ?_
       refine s_draw [0,0,0,0,8,0,0,64,224,480,0,0,3072,7168,16355,32739,65535,131071] rfl (by decide +kernel) ?_
       refine dp [] [] (.hs 1 0 [] 4 0 ((x5.2.2.2.2).map enc_Event).length) rfl (e_move rfl) rfl (rfl) (by decide) ?_
       refine dp [] [] (I (u11)) rfl (e_move rfl) rfl (rfl) (by decide) ?_
       refine dp [] [] (.hs 1 0 [] 4 0 ((x5.2.2.2.2).map enc_Event).length) rfl (e_move rfl) rfl (rfl) (by decide) ?_
       refine dp [] [] (I (u11)) rfl (e_move rfl) rfl (rfl) (by decide) ?_
       refine dp [] [] (I ((w64 (u11 - 1)))) rfl (e_bin rfl rfl rfl) rfl (rfl) (by decide) ?_
       refine dp [] [] (.hs 1 0 [] 4 0 ((x5.2.2.2.2).map enc_Event).length) rfl (e_move rfl) rfl (rfl) (by decide) ?_
       refine dp [] [] (I (u11)) rfl (e_move rfl) rfl (rfl) (by decide) ?_
       refine dp [] [] (I ((w64 (u11 - 1)))) rfl (e_bin rfl rfl rfl) rfl (rfl) (by decide) ?_
       obtain ⟨e14,he14,h⟩:=bS h
       refine dp [1] [] (.hp 1 0 [] 4 (0 + Int.toNat ((w64 (u11 - 1)))) 0) rfl (e_indexAddr rfl rfl rfl (ix_hsM (f:=enc_Event) (xs:=x5.2.2.2.2) rfl rfl rfl he14)) rfl (rfl) (by decide) ?_
       refine dp [1] [] (enc_Event e14) rfl (e_ld rfl (ld_at (path:=[]) rfl rfl rfl (ra_n) (get_map (f:=enc_Event) (xs:=x5.2.2.2.2) he14) rfl rfl rfl)) rfl (rfl) (by decide) ?_
       refine dp [] [] (.hs 1 0 [] 4 0 ((x5.2.2.2.2).map enc_Event).length) rfl (e_move rfl) rfl (rfl) (by decide) ?_
       refine dp [] [] (I (u11)) rfl (e_move rfl) rfl (rfl) (by decide) ?_
       obtain ⟨e15,he15,h⟩:=bS h
       refine dp [1] [] (.hp 1 0 [] 4 (0 + Int.toNat (u11)) 0) rfl (e_indexAddr rfl rfl rfl (ix_hsM (f:=enc_Event) (xs:=x5.2.2.2.2) rfl rfl rfl he15)) rfl (rfl) (by decide) ?_
       refine dp [1] [] (enc_Event e15) rfl (e_ld rfl (ld_at (path:=[]) rfl rfl rfl (ra_n) (get_map (f:=enc_Event) (xs:=x5.2.2.2.2) he15) rfl rfl rfl)) rfl (rfl) (by decide) ?_
       obtain ⟨e16,he16,h⟩:=bS h
       refine dp [1] [] (.hp 1 0 [] 4 (0 + Int.toNat (u11)) 0) rfl (e_indexAddr rfl rfl rfl (ix_hsM (f:=enc_Event) (xs:=x5.2.2.2.2) rfl rfl rfl he16)) rfl (rfl) (by decide) ?_
       obtain ⟨w17,hw17⟩ : ∃ w,getI (setI x5.2.2.2.2 u11 e14) (w64 (u11 - 1))=some w:=get_exI he14
       obtain ⟨w18,hw18⟩ : ∃ w,getI (setI x5.2.2.2.2 u11 e14) u11=some w:=get_exI he15
       refine dp0 [1] [1] rfl (e_st rfl rfl (st_at (path:=[]) (pl:=true) (e':=enc_Event e14) (es2':=((setI x5.2.2.2.2 u11 e14)).map enc_Event) rfl (absorb_plain rfl) rfl rfl rfl (ra_n) (get_map (f:=enc_Event) (xs:=x5.2.2.2.2) he16) rfl rfl rfl (set_map (f:=enc_Event) (xs:=x5.2.2.2.2) (y:=e14)) (sr_n) 0 rfl)) rfl (rfl) (by decide) ?_
       try rw [← len_setM (f:=enc_Event) (xs:=x5.2.2.2.2) (i:=u11) (z:=e14)]
       obtain ⟨e19,he19,h⟩:=bS h
       refine dp [1] [] (.hp 1 0 [] 4 (0 + Int.toNat ((w64 (u11 - 1)))) 0) rfl (e_indexAddr rfl rfl rfl (ix_hsM (f:=enc_Event) (xs:=(setI x5.2.2.2.2 u11 e14)) rfl rfl rfl he19)) rfl (rfl) (by decide) ?_
       obtain ⟨w20,hw20⟩ : ∃ w,getI (setI (setI x5.2.2.2.2 u11 e14) (w64 (u11 - 1)) e15) (w64 (u11 - 1))=some w:=get_exI hw17
       obtain ⟨w21,hw21⟩ : ∃ w,getI (setI (setI x5.2.2.2.2 u11 e14) (w64 (u11 - 1)) e15) u11=some w:=get_exI hw18
       obtain ⟨w22,hw22⟩ : ∃ w,getI (setI (setI x5.2.2.2.2 u11 e14) (w64 (u11 - 1)) e15) u11=some w:=get_exI (get_set he16)
       refine dp0 [1] [1] rfl (e_st rfl rfl (st_at (path:=[]) (pl:=true) (e':=enc_Event e15) (es2':=((setI (setI x5.2.2.2.2 u11 e14) (w64 (u11 - 1)) e15)).map enc_Event) rfl (absorb_plain rfl) rfl rfl rfl (ra_n) (get_map (f:=enc_Event) (xs:=(setI x5.2.2.2.2 u11 e14)) he19) rfl rfl rfl (set_map (f:=enc_Event) (xs:=(setI x5.2.2.2.2 u11 e14)) (y:=e15)) (sr_n) 0 rfl)) rfl (rfl) (by decide) ?_
       try rw [← len_setM (f:=enc_Event) (xs:=(setI x5.2.2.2.2 u11 e14)) (i:=(w64 (u11 - 1))) (z:=e15)]
       refine de 402 rfl rfl ?_
       refine c0 8 [65] [B ((decide ((w64 (u11 - x5.1)) ≥ 2)))] 466 (by kernel_rfl) ?_
       obtain ⟨y23,hy23,hy231,hy232⟩:=bL h
       have j23 : ∀ u23,y23=.inr u23→Run Ffbr_E 1 Q (.code (cR (cR (cR (cR (cR (cL (cL (cR (cL (cL (cR (cL (cR (cR Ffbr_c)))))))))))))) :: .blk 1 :: .code (cR (cR (cL (cL (cR (cL (cR (cR Ffbr_c)))))))) :: .lp (cL (cL (cR (cL (cR (cR Ffbr_c)))))) :: .blk 0 :: K) ⟨mkTm .dead 141 [(0,.hs 1 0 [] 4 0 ((u23).map enc_Event).length),(1,I (x5.1)),(2,I (x5.2.1)),(3,.fn 52 []),(9,I (u11)),(10,I (x5.2.2.2.1))],mkS (rtL [⟨0,4,(u23).map enc_Event⟩] 1),2⟩:=by
         intro u23 hu
         replace h:=hy232 u23 hu
         refine c0 7 [104] [B ((decide ((w64 (x5.2.1 - u11)) ≥ 2)))] 66 (by kernel_rfl) ?_
         obtain ⟨y24,hy24,hy241,hy242⟩:=bL h
         have j24 : ∀ u24,y24=.inr u24→Run Ffbr_E 1 Q (.blk 1 :: .code (cR (cR (cL (cL (cR (cL (cR (cR Ffbr_c)))))))) :: .lp (cL (cL (cR (cL (cR (cR Ffbr_c)))))) :: .blk 0 :: K) ⟨mkTm .dead 141 [(0,.hs 1 0 [] 4 0 ((u24).map enc_Event).length),(1,I (x5.1)),(2,I (x5.2.1)),(3,.fn 52 []),(9,I (u11)),(10,I (x5.2.2.2.1))],mkS (rtL [⟨0,4,(u24).map enc_Event⟩] 1),2⟩:=by
           intro u24 hu
           replace h:=hy242 u24 hu
           refine c0 6 [10] [I ((w64 (x5.2.2.2.1 + 1)))] 50 (by kernel_rfl) ?_
           refine s_lp ?_
           refine run_forget [0,1,2,3,9,10] [1] [⟨0,4,(u24).map enc_Event⟩] rfl rfl rfl rfl ?_
           exact ih _ _ h hr hn
         have r24 : ∀ r',y24=.inl r'→∀ st,Ffbr_Q (data_16,a_17,b_18,cmp_19) r' st→Q st:=fun r' e st hq=>hr r' (hy241 r' e) st hq
         replace h:=hy24
         refine sc h rfl rfl (fun h=>?_) (fun h=>?_)
         · refine c0 7 [12] [I ((w64 (u11 + 1)))] 114 (by kernel_rfl) ?_
           obtain ⟨y42,hy42,hy421,hy422⟩:=bL h
           refine s_loop rfl ?_
           refine run_forget [0,1,2,3,9,10,12] [1] [⟨0,4,(u23).map enc_Event⟩] rfl rfl rfl rfl ?_
           refine Ffbr_lc_run data_16 a_17 b_18 cmp_19 x5 u11 rfl hy42 (fun r' e st hq=>r24 r' (hy421 r' e) st hq) (fun u42 hu=>?_)
           replace h:=hy422 u42 hu
           refine run_forget [0,1,2,3,9,10] [1] [⟨0,4,(u42).map enc_Event⟩] rfl rfl rfl rfl ?_
           exact j24 _ (Option.some.inj h).symm
         · refine ad 1 rfl ?_
           refine run_forget [0,1,2,3,9,10] [1] [⟨0,4,(u23).map enc_Event⟩] rfl rfl rfl rfl ?_
           exact j24 _ (Option.some.inj h).symm
       have r23 : ∀ r',y23=.inl r'→∀ st,Ffbr_Q (data_16,a_17,b_18,cmp_19) r' st→Q st:=fun r' e st hq=>hr r' (hy231 r' e) st hq
       replace h:=hy23
       refine sc h rfl rfl (fun h=>?_) (fun h=>?_)
       · refine c0 7 [11] [I ((w64 (u11 - 1)))] 514 (by kernel_rfl) ?_
         obtain ⟨y60,hy60,hy601,hy602⟩:=bL h
         refine s_loop rfl ?_
         refine run_forget [0,1,2,3,9,10,11] [1] [⟨0,4,((setI (setI x5.2.2.2.2 u11 e14) (w64 (u11 - 1)) e15)).map enc_Event⟩] rfl rfl rfl rfl ?_
         refine Ffbr_ld_run data_16 a_17 b_18 cmp_19 x5 u11 rfl hy60 (fun r' e st hq=>r23 r' (hy601 r' e) st hq) (fun u60 hu=>?_)
         replace h:=hy602 u60 hu
         refine run_forget [0,1,2,3,9,10] [1] [⟨0,4,(u60).map enc_Event⟩] rfl rfl rfl rfl ?_
         exact j23 _ (Option.some.inj h).symm
       · refine ad 1 rfl ?_
         refine run_forget [0,1,2,3,9,10] [1] [⟨0,4,((setI (setI x5.2.2.2.2 u11 e14) (w64 (u11 - 1)) e15)).map enc_Event⟩] rfl rfl rfl rfl ?_
         exact j23 _ (Option.some.inj h).symm
 · refine ad 1 rfl ?_
   refine run_forget [] [1] [⟨0,4,(x5.2.2.2.2).map enc_Event⟩] rfl rfl rfl hK ?_
   exact hn _ (Option.some.inj h).symm
theorem Ffbr_run (data_16 : List Event) (a_17 : Int) (b_18 : Int) (cmp_19 : Unit) (r : Bool × (List Event)) (h : Ffbr data_16 a_17 b_18 cmp_19=some r) : RunF Ffbr_E Tryd.f120 [true,false,false,false] 1 (Ffbr_A (data_16,a_17,b_18,cmp_19)) (Ffbr_R r):=by
 show Run _ _ (Ffbr_Q (data_16,a_17,b_18,cmp_19) r) [.code Ffbr_c] _
 refine rin (n:=141) [(0,.hs 1 0 [] 4 0 ((data_16).map enc_Event).length),(1,I (a_17)),(2,I (b_18)),(3,.fn 52 [])] [(1,some ⟨0,4,(data_16).map enc_Event⟩)] 2 (by kernel_rfl) (by kernel_rfl) (by kernel_rfl) rfl ?_
 unfold Ffbr at h
 refine c0 16 [9,10] [I ((w64 (a_17 + 1))),I (0)] 82 (by kernel_rfl) ?_
 obtain ⟨y61,hy61,hy611,hy612⟩:=bJ h
 refine s_loop rfl ?_
 refine run_forget [0,1,2,3,9,10] [1] [⟨0,4,(data_16).map enc_Event⟩] rfl rfl rfl rfl ?_
 refine Ffbr_la_run data_16 a_17 b_18 cmp_19 rfl hy61 (fun r' e st hq=>by rw [hy611 r' e] at hq; exact hq) (fun u61 hu=>?_)
 replace h:=hy612 u61 hu
 refine c0 4 [8] [B (false)] 18 (by kernel_rfl) ?_
 obtain ⟨g62,h⟩:=gG h
 obtain rfl:=Option.some.inj h
 exact s_ret rfl ⟨_,fin (vs:=[B (false)]) rfl (absE (absorb_plain rfl) (absEN)) rfl (ou_1 rfl (oc_hsG (f:=enc_Event) (xs:=u61) (by simpa using g62) rfl) (ou_f (ou_f (ou_f (ou_n))))),kl_c (kl_n)⟩
theorem Ffbr_good {G : Go.Ln.Ground} : Good Tryd.prog G 120 Ffbr_ent:=good_T (fnOf_good (gl_c Fff_good (gl_n))) agree_mk (Checked.mixed Tryd.checked) Tryd.func120 (n:=4) (m:=1) ⟨rfl,rfl,by decide⟩ (fun _=>⟨rfl,rfl⟩) (fun a r h=>Ffbr_run a.1 a.2.1 a.2.2.1 a.2.2.2 r h)
def Ffbt_A : ((List Event) × Int × Int × Int × Unit)→List V:=cA (usE 4 enc_Event) (cA I (cA I (cA I (oA (fun x : Unit=>(.fn 52 [] : V))))))
def Ffbt_R (r : Int × (List Event)) : V × List V:=(I (r.1),[.usl 4 ((r.2).map enc_Event)])
noncomputable def Ffbt_ent : Ent:=entT [true,false,false,false,false] Ffbt_A Ffbt_R fun x=>Ffbt x.1 x.2.1 x.2.2.1 x.2.2.2.1 x.2.2.2.2
theorem Ffbt_F {data_9 : List Event} {a_10 : Int} {b_11 : Int} {pivot_12 : Int} {cmp_13 : Unit} {r} (h : Ffbt data_9 a_10 b_11 pivot_12 cmp_13=some r) : (Ffbt_ent).F (Ffbt_A (data_9,a_10,b_11,pivot_12,cmp_13))=some (Ffbt_R r):=entT_F (cA_inj (usl_inj enc_Event_inj) (cA_inj I_inj (cA_inj I_inj (cA_inj I_inj (oA_inj (fn_inj0 )))))) h
noncomputable def Ffbt_c : Code:=bodyOf Tryd.f121
noncomputable def Ffbt_E : Env:=mkE Tryd.prog [(52,Fff_ent)]
def Ffbt_Q (x : (List Event) × Int × Int × Int × Unit) (r : Int × (List Event)) : St→Prop:=QF Ffbt_E Tryd.f121 [true,false,false,false,false] (Ffbt_A x) (Ffbt_R r)
theorem Ffbt_lb_run (data_9 : List Event) (a_10 : Int) (b_11 : Int) (pivot_12 : Int) (cmp_13 : Unit) (x15 : Int × Int × (List Event)) {Q : St→Prop} {K : List It} (hK : noD K=true) {x16 : Int} {y : (Int × (List Event)) ⊕ Int} (h : Ffbt_lb data_9 a_10 b_11 pivot_12 cmp_13 x15 x16=some y) : (∀ r',y=.inl r'→∀ st,Ffbt_Q (data_9,a_10,b_11,pivot_12,cmp_13) r' st→Q st)→(∀ u : Int,y=.inr u→Run Ffbt_E 1 Q K ⟨mkTm .dead 90 [(0,.hs 1 0 [] 4 0 ((x15.2.2).map enc_Event).length),(1,I (a_10)),(4,.fn 52 []),(11,I (u)),(12,I (x15.2.1))],mkS (rtL [⟨0,4,(x15.2.2).map enc_Event⟩] 1),2⟩)→Run Ffbt_E 1 Q (.code (cL (cL (cL (cL (cL (cL (cL (cR (cR (cR Ffbt_c)))))))))) :: .lp (cL (cL (cL (cL (cL (cL (cL (cR (cR (cR Ffbt_c)))))))))) :: .blk 2 :: K) ⟨mkTm .dead 90 [(0,.hs 1 0 [] 4 0 ((x15.2.2).map enc_Event).length),(1,I (a_10)),(4,.fn 52 []),(11,I (x16)),(12,I (x15.2.1))],mkS (rtL [⟨0,4,(x15.2.2).map enc_Event⟩] 1),2⟩:=by
 refine fix_ind (P:=fun (x16 : Int) (y : (Int × (List Event)) ⊕ Int)=>(∀ r',y=.inl r'→∀ st,Ffbt_Q (data_9,a_10,b_11,pivot_12,cmp_13) r' st→Q st)→(∀ u : Int,y=.inr u→Run Ffbt_E 1 Q K ⟨mkTm .dead 90 [(0,.hs 1 0 [] 4 0 ((x15.2.2).map enc_Event).length),(1,I (a_10)),(4,.fn 52 []),(11,I (u)),(12,I (x15.2.1))],mkS (rtL [⟨0,4,(x15.2.2).map enc_Event⟩] 1),2⟩)→Run Ffbt_E 1 Q (.code (cL (cL (cL (cL (cL (cL (cL (cR (cR (cR Ffbt_c)))))))))) :: .lp (cL (cL (cL (cL (cL (cL (cL (cR (cR (cR Ffbt_c)))))))))) :: .blk 2 :: K) ⟨mkTm .dead 90 [(0,.hs 1 0 [] 4 0 ((x15.2.2).map enc_Event).length),(1,I (a_10)),(4,.fn 52 []),(11,I (x16)),(12,I (x15.2.1))],mkS (rtL [⟨0,4,(x15.2.2).map enc_Event⟩] 1),2⟩) (Ffbt_lb_fin data_9 a_10 b_11 pivot_12 cmp_13 x15) ?_ h
 clear h y x16
 intro self ih x16 y h hr hn
 unfold Ffbt_lb_F at h
 refine ad 2 rfl ?_
 refine s_draw [0,0,3,7,15,15,15,111,239,15,15,1551,3599,8191,16383,32767,65535] rfl (by decide +kernel) ?_
 refine dp [] [] (I (x16)) rfl (e_move rfl) rfl (rfl) (by decide) ?_
 refine dp [] [] (I (x15.2.1)) rfl (e_move rfl) rfl (rfl) (by decide) ?_
 refine dp [] [] (B ((decide (x16 ≤ x15.2.1)))) rfl (e_bin rfl rfl rfl) rfl (rfl) (by decide) ?_
 refine dp [] [] (B ((decide (x16 ≤ x15.2.1)))) rfl (e_move rfl) rfl (rfl) (by decide) ?_
 obtain ⟨y17,hy17,hy171,hy172⟩:=bL h
 have j17 : ∀ u17,y17=.inr u17→Run Ffbt_E 1 Q (.code (cR (cL (cL (cL (cL (cL (cL (cL (cL (cR (cR (cR Ffbt_c)))))))))))) :: .code (cR (cL (cL (cL (cL (cL (cL (cL (cR (cR (cR Ffbt_c))))))))))) :: .lp (cL (cL (cL (cL (cL (cL (cL (cR (cR (cR Ffbt_c)))))))))) :: .blk 2 :: K) ⟨mkTm .dead 90 [(0,.hs 1 0 [] 4 0 ((x15.2.2).map enc_Event).length),(1,I (a_10)),(4,.fn 52 []),(11,I (x16)),(12,I (x15.2.1)),(47,B (u17))],mkS (rtL [⟨0,4,(x15.2.2).map enc_Event⟩] 1),2⟩:=by
   intro u17 hu
   replace h:=hy172 u17 hu
   refine sc h rfl rfl (fun h=>?_) (fun h=>?_)
   · refine ad 1 rfl ?_
     refine c0 7 [11] [I ((w64 (x16 + 1)))] 50 (by kernel_rfl) ?_
     refine s_lp ?_
     refine run_forget [0,1,4,11,12] [1] [⟨0,4,(x15.2.2).map enc_Event⟩] rfl rfl rfl rfl ?_
     exact ih _ _ h hr hn
   · refine ad 1 rfl ?_
     refine run_forget [0,1,4,11,12] [1] [⟨0,4,(x15.2.2).map enc_Event⟩] rfl rfl rfl hK ?_
     exact hn _ (Option.some.inj h).symm
 have r17 : ∀ r',y17=.inl r'→∀ st,Ffbt_Q (data_9,a_10,b_11,pivot_12,cmp_13) r' st→Q st:=fun r' e st hq=>hr r' (hy171 r' e) st hq
 replace h:=hy17
 refine sp 34 h rfl (fun h=>?_) (fun h=>?_)
 · refine dg [] [] (.fn 52 []) rfl rfl rfl (e_move rfl) rfl (rfl) (by decide) ?_
   refine dg [] [] (.hs 1 0 [] 4 0 ((x15.2.2).map enc_Event).length) rfl rfl rfl (e_move rfl) rfl (rfl) (by decide) ?_
   refine dg [] [] (I (a_10)) rfl rfl rfl (e_move rfl) rfl (rfl) (by decide) ?_
   obtain ⟨e18,he18,h⟩:=bS h
   refine dg [1] [] (.hp 1 0 [] 4 (0 + Int.toNat (a_10)) 0) rfl rfl rfl (e_indexAddr rfl rfl rfl (ix_hsM (f:=enc_Event) (xs:=x15.2.2) rfl rfl rfl he18)) rfl (rfl) (by decide) ?_
   refine dg [1] [] (enc_Event e18) rfl rfl rfl (e_ld rfl (ld_at (path:=[]) rfl rfl rfl (ra_n) (get_map (f:=enc_Event) (xs:=x15.2.2) he18) rfl rfl rfl)) rfl (rfl) (by decide) ?_
   refine dg [] [] (.hs 1 0 [] 4 0 ((x15.2.2).map enc_Event).length) rfl rfl rfl (e_move rfl) rfl (rfl) (by decide) ?_
   refine dg [] [] (I (x16)) rfl rfl rfl (e_move rfl) rfl (rfl) (by decide) ?_
   obtain ⟨e19,he19,h⟩:=bS h
   refine dg [1] [] (.hp 1 0 [] 4 (0 + Int.toNat (x16)) 0) rfl rfl rfl (e_indexAddr rfl rfl rfl (ix_hsM (f:=enc_Event) (xs:=x15.2.2) rfl rfl rfl he19)) rfl (rfl) (by decide) ?_
   refine dg [1] [] (enc_Event e19) rfl rfl rfl (e_ld rfl (ld_at (path:=[]) rfl rfl rfl (ra_n) (get_map (f:=enc_Event) (xs:=x15.2.2) he19) rfl rfl rfl)) rfl (rfl) (by decide) ?_
   obtain ⟨r20,hr20,h⟩:=bS h
   refine dg [] [] (I (r20)) rfl rfl rfl (e_callV rfl rfl (call_P rfl rfl rfl (avS (shP rfl) (avS (shP rfl) (avN))) (Fff_F hr20) (.inr rfl) (bl_n) rfl rfl rfl)) rfl (w_callO rfl rfl rfl rfl (avS (shP rfl) (avS (shP rfl) (avN))) (Fff_F hr20) (.inr rfl) rfl) (by decide) ?_
   refine dg [] [] (B ((decide (r20 < 0)))) rfl rfl rfl (e_bin rfl rfl rfl) rfl (rfl) (by decide) ?_
   refine dg [] [] (B ((!(decide (r20 < 0))))) rfl rfl rfl (e_un rfl rfl) rfl (rfl) (by decide) ?_
   refine dp [] [] (B ((!(decide (r20 < 0))))) rfl (e_pickT rfl rfl) rfl (rfl) (by decide) ?_
   refine de 274 rfl rfl ?_
   refine run_forget [0,1,4,11,12,47] [1] [⟨0,4,(x15.2.2).map enc_Event⟩] rfl rfl rfl rfl ?_
   exact j17 _ (Option.some.inj h).symm
 · refine ds rfl rfl rfl (by decide) ?_
   refine ds rfl rfl rfl (by decide) ?_
   refine ds rfl rfl rfl (by decide) ?_
   refine ds rfl rfl rfl (by decide) ?_
   refine ds rfl rfl rfl (by decide) ?_
   refine ds rfl rfl rfl (by decide) ?_
   refine ds rfl rfl rfl (by decide) ?_
   refine ds rfl rfl rfl (by decide) ?_
   refine ds rfl rfl rfl (by decide) ?_
   refine ds rfl rfl rfl (by decide) ?_
   refine ds rfl rfl rfl (by decide) ?_
   refine ds rfl rfl rfl (by decide) ?_
   refine dp [] [] (B (false)) rfl (e_pickF rfl rfl) rfl (rfl) (by decide) ?_
   refine de 274 rfl rfl ?_
   refine run_forget [0,1,4,11,12,47] [1] [⟨0,4,(x15.2.2).map enc_Event⟩] rfl rfl rfl rfl ?_
   exact j17 _ (Option.some.inj h).symm
theorem Ffbt_lc_run (data_9 : List Event) (a_10 : Int) (b_11 : Int) (pivot_12 : Int) (cmp_13 : Unit) (u21 : Int) (x15 : Int × Int × (List Event)) {Q : St→Prop} {K : List It} (hK : noD K=true) {x22 : Int} {y : (Int × (List Event)) ⊕ Int} (h : Ffbt_lc data_9 a_10 b_11 pivot_12 cmp_13 u21 x15 x22=some y) : (∀ r',y=.inl r'→∀ st,Ffbt_Q (data_9,a_10,b_11,pivot_12,cmp_13) r' st→Q st)→(∀ u : Int,y=.inr u→Run Ffbt_E 1 Q K ⟨mkTm .dead 90 [(0,.hs 1 0 [] 4 0 ((x15.2.2).map enc_Event).length),(1,I (a_10)),(4,.fn 52 []),(11,I (u21)),(12,I (u))],mkS (rtL [⟨0,4,(x15.2.2).map enc_Event⟩] 1),2⟩)→Run Ffbt_E 1 Q (.code (cL (cL (cL (cR (cL (cL (cL (cL (cR (cR (cR Ffbt_c))))))))))) :: .lp (cL (cL (cL (cR (cL (cL (cL (cL (cR (cR (cR Ffbt_c))))))))))) :: .blk 4 :: K) ⟨mkTm .dead 90 [(0,.hs 1 0 [] 4 0 ((x15.2.2).map enc_Event).length),(1,I (a_10)),(4,.fn 52 []),(11,I (u21)),(12,I (x22))],mkS (rtL [⟨0,4,(x15.2.2).map enc_Event⟩] 1),2⟩:=by
 refine fix_ind (P:=fun (x22 : Int) (y : (Int × (List Event)) ⊕ Int)=>(∀ r',y=.inl r'→∀ st,Ffbt_Q (data_9,a_10,b_11,pivot_12,cmp_13) r' st→Q st)→(∀ u : Int,y=.inr u→Run Ffbt_E 1 Q K ⟨mkTm .dead 90 [(0,.hs 1 0 [] 4 0 ((x15.2.2).map enc_Event).length),(1,I (a_10)),(4,.fn 52 []),(11,I (u21)),(12,I (u))],mkS (rtL [⟨0,4,(x15.2.2).map enc_Event⟩] 1),2⟩)→Run Ffbt_E 1 Q (.code (cL (cL (cL (cR (cL (cL (cL (cL (cR (cR (cR Ffbt_c))))))))))) :: .lp (cL (cL (cL (cR (cL (cL (cL (cL (cR (cR (cR Ffbt_c))))))))))) :: .blk 4 :: K) ⟨mkTm .dead 90 [(0,.hs 1 0 [] 4 0 ((x15.2.2).map enc_Event).length),(1,I (a_10)),(4,.fn 52 []),(11,I (u21)),(12,I (x22))],mkS (rtL [⟨0,4,(x15.2.2).map enc_Event⟩] 1),2⟩) (Ffbt_lc_fin data_9 a_10 b_11 pivot_12 cmp_13 u21 x15) ?_ h
 clear h y x22
 intro self ih x22 y h hr hn
 unfold Ffbt_lc_F at h
 refine ad 2 rfl ?_
 refine s_draw [0,0,3,7,15,15,15,111,239,15,15,1551,3599,8191,16383,32767] rfl (by decide +kernel) ?_
 refine dp [] [] (I (u21)) rfl (e_move rfl) rfl (rfl) (by decide) ?_
 refine dp [] [] (I (x22)) rfl (e_move rfl) rfl (rfl) (by decide) ?_
 refine dp [] [] (B ((decide (u21 ≤ x22)))) rfl (e_bin rfl rfl rfl) rfl (rfl) (by decide) ?_
 refine dp [] [] (B ((decide (u21 ≤ x22)))) rfl (e_move rfl) rfl (rfl) (by decide) ?_
 obtain ⟨y23,hy23,hy231,hy232⟩:=bL h
 have j23 : ∀ u23,y23=.inr u23→Run Ffbt_E 1 Q (.code (cR (cL (cL (cL (cL (cR (cL (cL (cL (cL (cR (cR (cR Ffbt_c))))))))))))) :: .code (cR (cL (cL (cL (cR (cL (cL (cL (cL (cR (cR (cR Ffbt_c)))))))))))) :: .lp (cL (cL (cL (cR (cL (cL (cL (cL (cR (cR (cR Ffbt_c))))))))))) :: .blk 4 :: K) ⟨mkTm .dead 90 [(0,.hs 1 0 [] 4 0 ((x15.2.2).map enc_Event).length),(1,I (a_10)),(4,.fn 52 []),(11,I (u21)),(12,I (x22)),(65,B (u23))],mkS (rtL [⟨0,4,(x15.2.2).map enc_Event⟩] 1),2⟩:=by
   intro u23 hu
   replace h:=hy232 u23 hu
   refine sc h rfl rfl (fun h=>?_) (fun h=>?_)
   · refine ad 1 rfl ?_
     refine c0 7 [12] [I ((w64 (x22 - 1)))] 50 (by kernel_rfl) ?_
     refine s_lp ?_
     refine run_forget [0,1,4,11,12] [1] [⟨0,4,(x15.2.2).map enc_Event⟩] rfl rfl rfl rfl ?_
     exact ih _ _ h hr hn
   · refine ad 1 rfl ?_
     refine run_forget [0,1,4,11,12] [1] [⟨0,4,(x15.2.2).map enc_Event⟩] rfl rfl rfl hK ?_
     exact hn _ (Option.some.inj h).symm
 have r23 : ∀ r',y23=.inl r'→∀ st,Ffbt_Q (data_9,a_10,b_11,pivot_12,cmp_13) r' st→Q st:=fun r' e st hq=>hr r' (hy231 r' e) st hq
 replace h:=hy23
 refine sp 53 h rfl (fun h=>?_) (fun h=>?_)
 · refine dg [] [] (.fn 52 []) rfl rfl rfl (e_move rfl) rfl (rfl) (by decide) ?_
   refine dg [] [] (.hs 1 0 [] 4 0 ((x15.2.2).map enc_Event).length) rfl rfl rfl (e_move rfl) rfl (rfl) (by decide) ?_
   refine dg [] [] (I (a_10)) rfl rfl rfl (e_move rfl) rfl (rfl) (by decide) ?_
   obtain ⟨e24,he24,h⟩:=bS h
   refine dg [1] [] (.hp 1 0 [] 4 (0 + Int.toNat (a_10)) 0) rfl rfl rfl (e_indexAddr rfl rfl rfl (ix_hsM (f:=enc_Event) (xs:=x15.2.2) rfl rfl rfl he24)) rfl (rfl) (by decide) ?_
   refine dg [1] [] (enc_Event e24) rfl rfl rfl (e_ld rfl (ld_at (path:=[]) rfl rfl rfl (ra_n) (get_map (f:=enc_Event) (xs:=x15.2.2) he24) rfl rfl rfl)) rfl (rfl) (by decide) ?_
   refine dg [] [] (.hs 1 0 [] 4 0 ((x15.2.2).map enc_Event).length) rfl rfl rfl (e_move rfl) rfl (rfl) (by decide) ?_
   refine dg [] [] (I (x22)) rfl rfl rfl (e_move rfl) rfl (rfl) (by decide) ?_
   obtain ⟨e25,he25,h⟩:=bS h
   refine dg [1] [] (.hp 1 0 [] 4 (0 + Int.toNat (x22)) 0) rfl rfl rfl (e_indexAddr rfl rfl rfl (ix_hsM (f:=enc_Event) (xs:=x15.2.2) rfl rfl rfl he25)) rfl (rfl) (by decide) ?_
   refine dg [1] [] (enc_Event e25) rfl rfl rfl (e_ld rfl (ld_at (path:=[]) rfl rfl rfl (ra_n) (get_map (f:=enc_Event) (xs:=x15.2.2) he25) rfl rfl rfl)) rfl (rfl) (by decide) ?_
   obtain ⟨r26,hr26,h⟩:=bS h
   refine dg [] [] (I (r26)) rfl rfl rfl (e_callV rfl rfl (call_P rfl rfl rfl (avS (shP rfl) (avS (shP rfl) (avN))) (Fff_F hr26) (.inr rfl) (bl_n) rfl rfl rfl)) rfl (w_callO rfl rfl rfl rfl (avS (shP rfl) (avS (shP rfl) (avN))) (Fff_F hr26) (.inr rfl) rfl) (by decide) ?_
   refine dg [] [] (B ((decide (r26 < 0)))) rfl rfl rfl (e_bin rfl rfl rfl) rfl (rfl) (by decide) ?_
   refine dp [] [] (B ((decide (r26 < 0)))) rfl (e_pickT rfl rfl) rfl (rfl) (by decide) ?_
   refine de 258 rfl rfl ?_
   refine run_forget [0,1,4,11,12,65] [1] [⟨0,4,(x15.2.2).map enc_Event⟩] rfl rfl rfl rfl ?_
   exact j23 _ (Option.some.inj h).symm
 · refine ds rfl rfl rfl (by decide) ?_
   refine ds rfl rfl rfl (by decide) ?_
   refine ds rfl rfl rfl (by decide) ?_
   refine ds rfl rfl rfl (by decide) ?_
   refine ds rfl rfl rfl (by decide) ?_
   refine ds rfl rfl rfl (by decide) ?_
   refine ds rfl rfl rfl (by decide) ?_
   refine ds rfl rfl rfl (by decide) ?_
   refine ds rfl rfl rfl (by decide) ?_
   refine ds rfl rfl rfl (by decide) ?_
   refine ds rfl rfl rfl (by decide) ?_
   refine dp [] [] (B (false)) rfl (e_pickF rfl rfl) rfl (rfl) (by decide) ?_
   refine de 258 rfl rfl ?_
   refine run_forget [0,1,4,11,12,65] [1] [⟨0,4,(x15.2.2).map enc_Event⟩] rfl rfl rfl rfl ?_
   exact j23 _ (Option.some.inj h).symm
theorem Ffbt_la_run (data_9 : List Event) (a_10 : Int) (b_11 : Int) (pivot_12 : Int) (cmp_13 : Unit)  {Q : St→Prop} {K : List It} (hK : noD K=true) {x15 : Int × Int × (List Event)} {y : (Int × (List Event)) ⊕ (Int × (List Event))} (h : Ffbt_la data_9 a_10 b_11 pivot_12 cmp_13 x15=some y) : (∀ r',y=.inl r'→∀ st,Ffbt_Q (data_9,a_10,b_11,pivot_12,cmp_13) r' st→Q st)→(∀ u : Int × (List Event),y=.inr u→Run Ffbt_E 1 Q K ⟨mkTm .dead 90 [(11,I (u.1))],mkS (rtL [⟨0,4,(u.2).map enc_Event⟩] 1),2⟩)→Run Ffbt_E 1 Q (.code (cL (cL (cL (cR (cR (cR Ffbt_c)))))) :: .lp (cL (cL (cL (cR (cR (cR Ffbt_c)))))) :: .blk 0 :: K) ⟨mkTm .dead 90 [(0,.hs 1 0 [] 4 0 ((x15.2.2).map enc_Event).length),(1,I (a_10)),(4,.fn 52 []),(11,I (x15.1)),(12,I (x15.2.1))],mkS (rtL [⟨0,4,(x15.2.2).map enc_Event⟩] 1),2⟩:=by
 refine fix_ind (P:=fun (x15 : Int × Int × (List Event)) (y : (Int × (List Event)) ⊕ (Int × (List Event)))=>(∀ r',y=.inl r'→∀ st,Ffbt_Q (data_9,a_10,b_11,pivot_12,cmp_13) r' st→Q st)→(∀ u : Int × (List Event),y=.inr u→Run Ffbt_E 1 Q K ⟨mkTm .dead 90 [(11,I (u.1))],mkS (rtL [⟨0,4,(u.2).map enc_Event⟩] 1),2⟩)→Run Ffbt_E 1 Q (.code (cL (cL (cL (cR (cR (cR Ffbt_c)))))) :: .lp (cL (cL (cL (cR (cR (cR Ffbt_c)))))) :: .blk 0 :: K) ⟨mkTm .dead 90 [(0,.hs 1 0 [] 4 0 ((x15.2.2).map enc_Event).length),(1,I (a_10)),(4,.fn 52 []),(11,I (x15.1)),(12,I (x15.2.1))],mkS (rtL [⟨0,4,(x15.2.2).map enc_Event⟩] 1),2⟩) (Ffbt_la_fin data_9 a_10 b_11 pivot_12 cmp_13) ?_ h
 clear h y x15
 intro self ih x15 y h hr hn
 unfold Ffbt_la_F at h
 refine ad 3 rfl ?_
 obtain ⟨y21,hy21,hy211,hy212⟩:=bL h
 refine s_loop rfl ?_
 refine run_forget [0,1,4,11,12] [1] [⟨0,4,(x15.2.2).map enc_Event⟩] rfl rfl rfl rfl ?_
 refine Ffbt_lb_run data_9 a_10 b_11 pivot_12 cmp_13 x15 rfl hy21 (fun r' e st hq=>hr r' (hy211 r' e) st hq) (fun u21 hu=>?_)
 replace h:=hy212 u21 hu
 refine ad 2 rfl ?_
 obtain ⟨y27,hy27,hy271,hy272⟩:=bL h
 refine s_loop rfl ?_
 refine run_forget [0,1,4,11,12] [1] [⟨0,4,(x15.2.2).map enc_Event⟩] rfl rfl rfl rfl ?_
 refine Ffbt_lc_run data_9 a_10 b_11 pivot_12 cmp_13 u21 x15 rfl hy27 (fun r' e st hq=>hr r' (hy271 r' e) st hq) (fun u27 hu=>?_)
 replace h:=hy272 u27 hu
 refine c0 7 [70] [B ((decide (u21 > u27)))] 50 (by kernel_rfl) ?_
 refine sc h rfl rfl (fun h=>?_) (fun h=>?_)
 · refine ad 1 rfl ?_
   refine run_forget [11] [1] [⟨0,4,(x15.2.2).map enc_Event⟩] rfl rfl rfl hK ?_
   exact hn _ (Option.some.inj h).symm
 · refine ad 1 rfl ?_
   refine ad 1 rfl ?_
   refine s_draw [0,0,0,0,0,0,48,112,0,0,768,1792,4083,8179,16383,32767] rfl (by decide +kernel) ?_
   refine dp [] [] (.hs 1 0 [] 4 0 ((x15.2.2).map enc_Event).length) rfl (e_move rfl) rfl (rfl) (by decide) ?_
   refine dp [] [] (I (u21)) rfl (e_move rfl) rfl (rfl) (by decide) ?_
   refine dp [] [] (.hs 1 0 [] 4 0 ((x15.2.2).map enc_Event).length) rfl (e_move rfl) rfl (rfl) (by decide) ?_
   refine dp [] [] (I (u27)) rfl (e_move rfl) rfl (rfl) (by decide) ?_
   refine dp [] [] (.hs 1 0 [] 4 0 ((x15.2.2).map enc_Event).length) rfl (e_move rfl) rfl (rfl) (by decide) ?_
   refine dp [] [] (I (u27)) rfl (e_move rfl) rfl (rfl) (by decide) ?_
   obtain ⟨e28,he28,h⟩:=bS h
   refine dp [1] [] (.hp 1 0 [] 4 (0 + Int.toNat (u27)) 0) rfl (e_indexAddr rfl rfl rfl (ix_hsM (f:=enc_Event) (xs:=x15.2.2) rfl rfl rfl he28)) rfl (rfl) (by decide) ?_
   refine dp [1] [] (enc_Event e28) rfl (e_ld rfl (ld_at (path:=[]) rfl rfl rfl (ra_n) (get_map (f:=enc_Event) (xs:=x15.2.2) he28) rfl rfl rfl)) rfl (rfl) (by decide) ?_
   refine dp [] [] (.hs 1 0 [] 4 0 ((x15.2.2).map enc_Event).length) rfl (e_move rfl) rfl (rfl) (by decide) ?_
   refine dp [] [] (I (u21)) rfl (e_move rfl) rfl (rfl) (by decide) ?_
   obtain ⟨e29,he29,h⟩:=bS h
   refine dp [1] [] (.hp 1 0 [] 4 (0 + Int.toNat (u21)) 0) rfl (e_indexAddr rfl rfl rfl (ix_hsM (f:=enc_Event) (xs:=x15.2.2) rfl rfl rfl he29)) rfl (rfl) (by decide) ?_
   refine dp [1] [] (enc_Event e29) rfl (e_ld rfl (ld_at (path:=[]) rfl rfl rfl (ra_n) (get_map (f:=enc_Event) (xs:=x15.2.2) he29) rfl rfl rfl)) rfl (rfl) (by decide) ?_
   obtain ⟨e30,he30,h⟩:=bS h
   refine dp [1] [] (.hp 1 0 [] 4 (0 + Int.toNat (u21)) 0) rfl (e_indexAddr rfl rfl rfl (ix_hsM (f:=enc_Event) (xs:=x15.2.2) rfl rfl rfl he30)) rfl (rfl) (by decide) ?_
   obtain ⟨w31,hw31⟩ : ∃ w,getI (setI x15.2.2 u21 e28) u27=some w:=get_exI he28
   obtain ⟨w32,hw32⟩ : ∃ w,getI (setI x15.2.2 u21 e28) u21=some w:=get_exI he29
   refine dp0 [1] [1] rfl (e_st rfl rfl (st_at (path:=[]) (pl:=true) (e':=enc_Event e28) (es2':=((setI x15.2.2 u21 e28)).map enc_Event) rfl (absorb_plain rfl) rfl rfl rfl (ra_n) (get_map (f:=enc_Event) (xs:=x15.2.2) he30) rfl rfl rfl (set_map (f:=enc_Event) (xs:=x15.2.2) (y:=e28)) (sr_n) 0 rfl)) rfl (rfl) (by decide) ?_
   try rw [← len_setM (f:=enc_Event) (xs:=x15.2.2) (i:=u21) (z:=e28)]
   obtain ⟨e33,he33,h⟩:=bS h
   refine dp [1] [] (.hp 1 0 [] 4 (0 + Int.toNat (u27)) 0) rfl (e_indexAddr rfl rfl rfl (ix_hsM (f:=enc_Event) (xs:=(setI x15.2.2 u21 e28)) rfl rfl rfl he33)) rfl (rfl) (by decide) ?_
   obtain ⟨w34,hw34⟩ : ∃ w,getI (setI (setI x15.2.2 u21 e28) u27 e29) u27=some w:=get_exI hw31
   obtain ⟨w35,hw35⟩ : ∃ w,getI (setI (setI x15.2.2 u21 e28) u27 e29) u21=some w:=get_exI hw32
   obtain ⟨w36,hw36⟩ : ∃ w,getI (setI (setI x15.2.2 u21 e28) u27 e29) u21=some w:=get_exI (get_set he30)
   refine dp0 [1] [1] rfl (e_st rfl rfl (st_at (path:=[]) (pl:=true) (e':=enc_Event e29) (es2':=((setI (setI x15.2.2 u21 e28) u27 e29)).map enc_Event) rfl (absorb_plain rfl) rfl rfl rfl (ra_n) (get_map (f:=enc_Event) (xs:=(setI x15.2.2 u21 e28)) he33) rfl rfl rfl (set_map (f:=enc_Event) (xs:=(setI x15.2.2 u21 e28)) (y:=e29)) (sr_n) 0 rfl)) rfl (rfl) (by decide) ?_
   try rw [← len_setM (f:=enc_Event) (xs:=(setI x15.2.2 u21 e28)) (i:=u27) (z:=e29)]
   refine de 306 rfl rfl ?_
   refine c0 12 [11,12] [I ((w64 (u21 + 1))),I ((w64 (u27 - 1)))] 402 (by kernel_rfl) ?_
   refine s_lp ?_
   refine run_forget [0,1,4,11,12] [1] [⟨0,4,((setI (setI x15.2.2 u21 e28) u27 e29)).map enc_Event⟩] rfl rfl rfl rfl ?_
   exact ih _ _ h hr hn
theorem Ffbt_run (data_9 : List Event) (a_10 : Int) (b_11 : Int) (pivot_12 : Int) (cmp_13 : Unit) (r : Int × (List Event)) (h : Ffbt data_9 a_10 b_11 pivot_12 cmp_13=some r) : RunF Ffbt_E Tryd.f121 [true,false,false,false,false] 1 (Ffbt_A (data_9,a_10,b_11,pivot_12,cmp_13)) (Ffbt_R r):=by
 show Run _ _ (Ffbt_Q (data_9,a_10,b_11,pivot_12,cmp_13) r) [.code Ffbt_c] _
 refine rin (n:=90) [(0,.hs 1 0 [] 4 0 ((data_9).map enc_Event).length),(1,I (a_10)),(2,I (b_11)),(3,I (pivot_12)),(4,.fn 52 [])] [(1,some ⟨0,4,(data_9).map enc_Event⟩)] 2 (by kernel_rfl) (by kernel_rfl) (by kernel_rfl) rfl ?_
 unfold Ffbt at h
 refine c0 5 [] [] 18 (by kernel_rfl) ?_
 refine s_draw [0,0,0,0,0,0,48,112,0,0,768,1792,4083,8179,16383,32767] rfl (by decide +kernel) ?_
 refine dp [] [] (.hs 1 0 [] 4 0 ((data_9).map enc_Event).length) rfl (e_move rfl) rfl (rfl) (by decide) ?_
 refine dp [] [] (I (a_10)) rfl (e_move rfl) rfl (rfl) (by decide) ?_
 refine dp [] [] (.hs 1 0 [] 4 0 ((data_9).map enc_Event).length) rfl (e_move rfl) rfl (rfl) (by decide) ?_
 refine dp [] [] (I (pivot_12)) rfl (e_move rfl) rfl (rfl) (by decide) ?_
 refine dp [] [] (.hs 1 0 [] 4 0 ((data_9).map enc_Event).length) rfl (e_move rfl) rfl (rfl) (by decide) ?_
 refine dp [] [] (I (pivot_12)) rfl (e_move rfl) rfl (rfl) (by decide) ?_
 obtain ⟨e6,he6,h⟩:=bS h
 refine dp [1] [] (.hp 1 0 [] 4 (0 + Int.toNat (pivot_12)) 0) rfl (e_indexAddr rfl rfl rfl (ix_hsM (f:=enc_Event) (xs:=data_9) rfl rfl rfl he6)) rfl (rfl) (by decide) ?_
 refine dp [1] [] (enc_Event e6) rfl (e_ld rfl (ld_at (path:=[]) rfl rfl rfl (ra_n) (get_map (f:=enc_Event) (xs:=data_9) he6) rfl rfl rfl)) rfl (rfl) (by decide) ?_
 refine dp [] [] (.hs 1 0 [] 4 0 ((data_9).map enc_Event).length) rfl (e_move rfl) rfl (rfl) (by decide) ?_
 refine dp [] [] (I (a_10)) rfl (e_move rfl) rfl (rfl) (by decide) ?_
 obtain ⟨e7,he7,h⟩:=bS h
 refine dp [1] [] (.hp 1 0 [] 4 (0 + Int.toNat (a_10)) 0) rfl (e_indexAddr rfl rfl rfl (ix_hsM (f:=enc_Event) (xs:=data_9) rfl rfl rfl he7)) rfl (rfl) (by decide) ?_
 refine dp [1] [] (enc_Event e7) rfl (e_ld rfl (ld_at (path:=[]) rfl rfl rfl (ra_n) (get_map (f:=enc_Event) (xs:=data_9) he7) rfl rfl rfl)) rfl (rfl) (by decide) ?_
 obtain ⟨e8,he8,h⟩:=bS h
 refine dp [1] [] (.hp 1 0 [] 4 (0 + Int.toNat (a_10)) 0) rfl (e_indexAddr rfl rfl rfl (ix_hsM (f:=enc_Event) (xs:=data_9) rfl rfl rfl he8)) rfl (rfl) (by decide) ?_
 obtain ⟨w9,hw9⟩ : ∃ w,getI (setI data_9 a_10 e6) pivot_12=some w:=get_exI he6
 obtain ⟨w10,hw10⟩ : ∃ w,getI (setI data_9 a_10 e6) a_10=some w:=get_exI he7
 refine dp0 [1] [1] rfl (e_st rfl rfl (st_at (path:=[]) (pl:=true) (e':=enc_Event e6) (es2':=((setI data_9 a_10 e6)).map enc_Event) rfl (absorb_plain rfl) rfl rfl rfl (ra_n) (get_map (f:=enc_Event) (xs:=data_9) he8) rfl rfl rfl (set_map (f:=enc_Event) (xs:=data_9) (y:=e6)) (sr_n) 0 rfl)) rfl (rfl) (by decide) ?_
 try rw [← len_setM (f:=enc_Event) (xs:=data_9) (i:=a_10) (z:=e6)]
 obtain ⟨e11,he11,h⟩:=bS h
 refine dp [1] [] (.hp 1 0 [] 4 (0 + Int.toNat (pivot_12)) 0) rfl (e_indexAddr rfl rfl rfl (ix_hsM (f:=enc_Event) (xs:=(setI data_9 a_10 e6)) rfl rfl rfl he11)) rfl (rfl) (by decide) ?_
 obtain ⟨w12,hw12⟩ : ∃ w,getI (setI (setI data_9 a_10 e6) pivot_12 e7) pivot_12=some w:=get_exI hw9
 obtain ⟨w13,hw13⟩ : ∃ w,getI (setI (setI data_9 a_10 e6) pivot_12 e7) a_10=some w:=get_exI hw10
 obtain ⟨w14,hw14⟩ : ∃ w,getI (setI (setI data_9 a_10 e6) pivot_12 e7) a_10=some w:=get_exI (get_set he8)
 refine dp0 [1] [1] rfl (e_st rfl rfl (st_at (path:=[]) (pl:=true) (e':=enc_Event e7) (es2':=((setI (setI data_9 a_10 e6) pivot_12 e7)).map enc_Event) rfl (absorb_plain rfl) rfl rfl rfl (ra_n) (get_map (f:=enc_Event) (xs:=(setI data_9 a_10 e6)) he11) rfl rfl rfl (set_map (f:=enc_Event) (xs:=(setI data_9 a_10 e6)) (y:=e7)) (sr_n) 0 rfl)) rfl (rfl) (by decide) ?_
 try rw [← len_setM (f:=enc_Event) (xs:=(setI data_9 a_10 e6)) (i:=pivot_12) (z:=e7)]
 refine de 274 rfl rfl ?_
 refine c0 11 [11,12] [I ((w64 (a_10 + 1))),I ((w64 (b_11 - 1)))] 370 (by kernel_rfl) ?_
 obtain ⟨y37,hy37,hy371,hy372⟩:=bJ h
 refine s_loop rfl ?_
 refine run_forget [0,1,4,11,12] [1] [⟨0,4,((setI (setI data_9 a_10 e6) pivot_12 e7)).map enc_Event⟩] rfl rfl rfl rfl ?_
 refine Ffbt_la_run data_9 a_10 b_11 pivot_12 cmp_13 rfl hy37 (fun r' e st hq=>by rw [hy371 r' e] at hq; exact hq) (fun u37 hu=>?_)
 replace h:=hy372 u37 hu
 refine c0 5 [10] [I (u37.1)] 34 (by kernel_rfl) ?_
 obtain ⟨g38,h⟩:=gG h
 obtain rfl:=Option.some.inj h
 exact s_ret rfl ⟨_,fin (vs:=[I (u37.1)]) rfl (absE (absorb_plain rfl) (absEN)) rfl (ou_1 rfl (oc_hsG (f:=enc_Event) (xs:=u37.2) (by simpa using g38) rfl) (ou_f (ou_f (ou_f (ou_f (ou_n)))))),kl_c (kl_n)⟩
theorem Ffbt_good {G : Go.Ln.Ground} : Good Tryd.prog G 121 Ffbt_ent:=good_T (fnOf_good (gl_c Fff_good (gl_n))) agree_mk (Checked.mixed Tryd.checked) Tryd.func121 (n:=5) (m:=1) ⟨rfl,rfl,by decide⟩ (fun _=>⟨rfl,rfl⟩) (fun a r h=>Ffbt_run a.1 a.2.1 a.2.2.1 a.2.2.2.1 a.2.2.2.2 r h)
def Ffbs_A : ((List Event) × Int × Int × Int × Unit)→List V:=cA (usE 4 enc_Event) (cA I (cA I (cA I (oA (fun x : Unit=>(.fn 52 [] : V))))))
def Ffbs_R (r : Int × Bool × (List Event)) : V × List V:=(.tup [I (r.1),B (r.2.1)],[.usl 4 ((r.2.2).map enc_Event)])
noncomputable def Ffbs_ent : Ent:=entT [true,false,false,false,false] Ffbs_A Ffbs_R fun x=>Ffbs x.1 x.2.1 x.2.2.1 x.2.2.2.1 x.2.2.2.2
theorem Ffbs_F {data_9 : List Event} {a_10 : Int} {b_11 : Int} {pivot_12 : Int} {cmp_13 : Unit} {r} (h : Ffbs data_9 a_10 b_11 pivot_12 cmp_13=some r) : (Ffbs_ent).F (Ffbs_A (data_9,a_10,b_11,pivot_12,cmp_13))=some (Ffbs_R r):=entT_F (cA_inj (usl_inj enc_Event_inj) (cA_inj I_inj (cA_inj I_inj (cA_inj I_inj (oA_inj (fn_inj0 )))))) h
noncomputable def Ffbs_c : Code:=bodyOf Tryd.f122
noncomputable def Ffbs_E : Env:=mkE Tryd.prog [(52,Fff_ent)]
def Ffbs_Q (x : (List Event) × Int × Int × Int × Unit) (r : Int × Bool × (List Event)) : St→Prop:=QF Ffbs_E Tryd.f122 [true,false,false,false,false] (Ffbs_A x) (Ffbs_R r)
theorem Ffbs_la_run (data_9 : List Event) (a_10 : Int) (b_11 : Int) (pivot_12 : Int) (cmp_13 : Unit) (e6 : Event) (e7 : Event) {Q : St→Prop} {K : List It} (hK : noD K=true) {x15 : Int} {y : (Int × Bool × (List Event)) ⊕ (Int × Int)} (h : Ffbs_la data_9 a_10 b_11 pivot_12 cmp_13 e6 e7 x15=some y) : (∀ r',y=.inl r'→∀ st,Ffbs_Q (data_9,a_10,b_11,pivot_12,cmp_13) r' st→Q st)→(∀ u : Int × Int,y=.inr u→Run Ffbs_E 1 Q K ⟨mkTm .dead 178 [(0,.hs 1 0 [] 4 0 (((setI (setI data_9 a_10 e6) pivot_12 e7)).map enc_Event).length),(1,I (a_10)),(4,.fn 52 []),(12,I (u.1)),(13,I (u.2))],mkS (rtL [⟨0,4,((setI (setI data_9 a_10 e6) pivot_12 e7)).map enc_Event⟩] 1),2⟩)→Run Ffbs_E 1 Q (.code (cL (cL (cL (cR (cR (cR Ffbs_c)))))) :: .lp (cL (cL (cL (cR (cR (cR Ffbs_c)))))) :: .blk 0 :: K) ⟨mkTm .dead 178 [(0,.hs 1 0 [] 4 0 (((setI (setI data_9 a_10 e6) pivot_12 e7)).map enc_Event).length),(1,I (a_10)),(4,.fn 52 []),(12,I (x15)),(13,I ((w64 (b_11 - 1))))],mkS (rtL [⟨0,4,((setI (setI data_9 a_10 e6) pivot_12 e7)).map enc_Event⟩] 1),2⟩:=by
 refine fix_ind (P:=fun (x15 : Int) (y : (Int × Bool × (List Event)) ⊕ (Int × Int))=>(∀ r',y=.inl r'→∀ st,Ffbs_Q (data_9,a_10,b_11,pivot_12,cmp_13) r' st→Q st)→(∀ u : Int × Int,y=.inr u→Run Ffbs_E 1 Q K ⟨mkTm .dead 178 [(0,.hs 1 0 [] 4 0 (((setI (setI data_9 a_10 e6) pivot_12 e7)).map enc_Event).length),(1,I (a_10)),(4,.fn 52 []),(12,I (u.1)),(13,I (u.2))],mkS (rtL [⟨0,4,((setI (setI data_9 a_10 e6) pivot_12 e7)).map enc_Event⟩] 1),2⟩)→Run Ffbs_E 1 Q (.code (cL (cL (cL (cR (cR (cR Ffbs_c)))))) :: .lp (cL (cL (cL (cR (cR (cR Ffbs_c)))))) :: .blk 0 :: K) ⟨mkTm .dead 178 [(0,.hs 1 0 [] 4 0 (((setI (setI data_9 a_10 e6) pivot_12 e7)).map enc_Event).length),(1,I (a_10)),(4,.fn 52 []),(12,I (x15)),(13,I ((w64 (b_11 - 1))))],mkS (rtL [⟨0,4,((setI (setI data_9 a_10 e6) pivot_12 e7)).map enc_Event⟩] 1),2⟩) (Ffbs_la_fin data_9 a_10 b_11 pivot_12 cmp_13 e6 e7) ?_ h
 clear h y x15
 intro self ih x15 y h hr hn
 unfold Ffbs_la_F at h
 refine ad 2 rfl ?_
 refine s_draw [0,0,3,7,15,15,15,111,239,15,15,1551,3599,8191,16383,32767] rfl (by decide +kernel) ?_
 refine dp [] [] (I (x15)) rfl (e_move rfl) rfl (rfl) (by decide) ?_
 refine dp [] [] (I ((w64 (b_11 - 1)))) rfl (e_move rfl) rfl (rfl) (by decide) ?_
 refine dp [] [] (B ((decide (x15 ≤ (w64 (b_11 - 1)))))) rfl (e_bin rfl rfl rfl) rfl (rfl) (by decide) ?_
 refine dp [] [] (B ((decide (x15 ≤ (w64 (b_11 - 1)))))) rfl (e_move rfl) rfl (rfl) (by decide) ?_
 obtain ⟨y16,hy16,hy161,hy162⟩:=bL h
 have j16 : ∀ u16,y16=.inr u16→Run Ffbs_E 1 Q (.code (cR (cL (cL (cL (cL (cR (cR (cR Ffbs_c)))))))) :: .code (cR (cL (cL (cL (cR (cR (cR Ffbs_c))))))) :: .lp (cL (cL (cL (cR (cR (cR Ffbs_c)))))) :: .blk 0 :: K) ⟨mkTm .dead 178 [(0,.hs 1 0 [] 4 0 (((setI (setI data_9 a_10 e6) pivot_12 e7)).map enc_Event).length),(1,I (a_10)),(4,.fn 52 []),(12,I (x15)),(13,I ((w64 (b_11 - 1)))),(47,B (u16))],mkS (rtL [⟨0,4,((setI (setI data_9 a_10 e6) pivot_12 e7)).map enc_Event⟩] 1),2⟩:=by
   intro u16 hu
   replace h:=hy162 u16 hu
   refine sc h rfl rfl (fun h=>?_) (fun h=>?_)
   · refine ad 1 rfl ?_
     refine c0 7 [12] [I ((w64 (x15 + 1)))] 50 (by kernel_rfl) ?_
     refine s_lp ?_
     refine run_forget [0,1,4,12,13] [1] [⟨0,4,((setI (setI data_9 a_10 e6) pivot_12 e7)).map enc_Event⟩] rfl rfl rfl rfl ?_
     exact ih _ _ h hr hn
   · refine ad 1 rfl ?_
     refine run_forget [0,1,4,12,13] [1] [⟨0,4,((setI (setI data_9 a_10 e6) pivot_12 e7)).map enc_Event⟩] rfl rfl rfl hK ?_
     exact hn _ (Option.some.inj h).symm
 have r16 : ∀ r',y16=.inl r'→∀ st,Ffbs_Q (data_9,a_10,b_11,pivot_12,cmp_13) r' st→Q st:=fun r' e st hq=>hr r' (hy161 r' e) st hq
 replace h:=hy16
 refine sp 35 h rfl (fun h=>?_) (fun h=>?_)
 · refine dg [] [] (.fn 52 []) rfl rfl rfl (e_move rfl) rfl (rfl) (by decide) ?_
   refine dg [] [] (.hs 1 0 [] 4 0 (((setI (setI data_9 a_10 e6) pivot_12 e7)).map enc_Event).length) rfl rfl rfl (e_move rfl) rfl (rfl) (by decide) ?_
   refine dg [] [] (I (x15)) rfl rfl rfl (e_move rfl) rfl (rfl) (by decide) ?_
   obtain ⟨e17,he17,h⟩:=bS h
   refine dg [1] [] (.hp 1 0 [] 4 (0 + Int.toNat (x15)) 0) rfl rfl rfl (e_indexAddr rfl rfl rfl (ix_hsM (f:=enc_Event) (xs:=(setI (setI data_9 a_10 e6) pivot_12 e7)) rfl rfl rfl he17)) rfl (rfl) (by decide) ?_
   refine dg [1] [] (enc_Event e17) rfl rfl rfl (e_ld rfl (ld_at (path:=[]) rfl rfl rfl (ra_n) (get_map (f:=enc_Event) (xs:=(setI (setI data_9 a_10 e6) pivot_12 e7)) he17) rfl rfl rfl)) rfl (rfl) (by decide) ?_
   refine dg [] [] (.hs 1 0 [] 4 0 (((setI (setI data_9 a_10 e6) pivot_12 e7)).map enc_Event).length) rfl rfl rfl (e_move rfl) rfl (rfl) (by decide) ?_
   refine dg [] [] (I (a_10)) rfl rfl rfl (e_move rfl) rfl (rfl) (by decide) ?_
   obtain ⟨e18,he18,h⟩:=bS h
   refine dg [1] [] (.hp 1 0 [] 4 (0 + Int.toNat (a_10)) 0) rfl rfl rfl (e_indexAddr rfl rfl rfl (ix_hsM (f:=enc_Event) (xs:=(setI (setI data_9 a_10 e6) pivot_12 e7)) rfl rfl rfl he18)) rfl (rfl) (by decide) ?_
   refine dg [1] [] (enc_Event e18) rfl rfl rfl (e_ld rfl (ld_at (path:=[]) rfl rfl rfl (ra_n) (get_map (f:=enc_Event) (xs:=(setI (setI data_9 a_10 e6) pivot_12 e7)) he18) rfl rfl rfl)) rfl (rfl) (by decide) ?_
   obtain ⟨r19,hr19,h⟩:=bS h
   refine dg [] [] (I (r19)) rfl rfl rfl (e_callV rfl rfl (call_P rfl rfl rfl (avS (shP rfl) (avS (shP rfl) (avN))) (Fff_F hr19) (.inr rfl) (bl_n) rfl rfl rfl)) rfl (w_callO rfl rfl rfl rfl (avS (shP rfl) (avS (shP rfl) (avN))) (Fff_F hr19) (.inr rfl) rfl) (by decide) ?_
   refine dg [] [] (B ((decide (r19 < 0)))) rfl rfl rfl (e_bin rfl rfl rfl) rfl (rfl) (by decide) ?_
   refine dp [] [] (B ((decide (r19 < 0)))) rfl (e_pickT rfl rfl) rfl (rfl) (by decide) ?_
   refine de 258 rfl rfl ?_
   refine run_forget [0,1,4,12,13,47] [1] [⟨0,4,((setI (setI data_9 a_10 e6) pivot_12 e7)).map enc_Event⟩] rfl rfl rfl rfl ?_
   exact j16 _ (Option.some.inj h).symm
 · refine ds rfl rfl rfl (by decide) ?_
   refine ds rfl rfl rfl (by decide) ?_
   refine ds rfl rfl rfl (by decide) ?_
   refine ds rfl rfl rfl (by decide) ?_
   refine ds rfl rfl rfl (by decide) ?_
   refine ds rfl rfl rfl (by decide) ?_
   refine ds rfl rfl rfl (by decide) ?_
   refine ds rfl rfl rfl (by decide) ?_
   refine ds rfl rfl rfl (by decide) ?_
   refine ds rfl rfl rfl (by decide) ?_
   refine ds rfl rfl rfl (by decide) ?_
   refine dp [] [] (B (false)) rfl (e_pickF rfl rfl) rfl (rfl) (by decide) ?_
   refine de 258 rfl rfl ?_
   refine run_forget [0,1,4,12,13,47] [1] [⟨0,4,((setI (setI data_9 a_10 e6) pivot_12 e7)).map enc_Event⟩] rfl rfl rfl rfl ?_
   exact j16 _ (Option.some.inj h).symm
theorem Ffbs_lb_run (data_9 : List Event) (a_10 : Int) (b_11 : Int) (pivot_12 : Int) (cmp_13 : Unit) (u20 : Int × Int) (e6 : Event) (e7 : Event) {Q : St→Prop} {K : List It} (hK : noD K=true) {x21 : Int} {y : (Int × Bool × (List Event)) ⊕ Int} (h : Ffbs_lb data_9 a_10 b_11 pivot_12 cmp_13 u20 e6 e7 x21=some y) : (∀ r',y=.inl r'→∀ st,Ffbs_Q (data_9,a_10,b_11,pivot_12,cmp_13) r' st→Q st)→(∀ u : Int,y=.inr u→Run Ffbs_E 1 Q K ⟨mkTm .dead 178 [(0,.hs 1 0 [] 4 0 (((setI (setI data_9 a_10 e6) pivot_12 e7)).map enc_Event).length),(1,I (a_10)),(4,.fn 52 []),(12,I (u20.1)),(13,I (u))],mkS (rtL [⟨0,4,((setI (setI data_9 a_10 e6) pivot_12 e7)).map enc_Event⟩] 1),2⟩)→Run Ffbs_E 1 Q (.code (cL (cL (cL (cR (cR (cR (cR Ffbs_c))))))) :: .lp (cL (cL (cL (cR (cR (cR (cR Ffbs_c))))))) :: .blk 2 :: K) ⟨mkTm .dead 178 [(0,.hs 1 0 [] 4 0 (((setI (setI data_9 a_10 e6) pivot_12 e7)).map enc_Event).length),(1,I (a_10)),(4,.fn 52 []),(12,I (u20.1)),(13,I (x21))],mkS (rtL [⟨0,4,((setI (setI data_9 a_10 e6) pivot_12 e7)).map enc_Event⟩] 1),2⟩:=by
 refine fix_ind (P:=fun (x21 : Int) (y : (Int × Bool × (List Event)) ⊕ Int)=>(∀ r',y=.inl r'→∀ st,Ffbs_Q (data_9,a_10,b_11,pivot_12,cmp_13) r' st→Q st)→(∀ u : Int,y=.inr u→Run Ffbs_E 1 Q K ⟨mkTm .dead 178 [(0,.hs 1 0 [] 4 0 (((setI (setI data_9 a_10 e6) pivot_12 e7)).map enc_Event).length),(1,I (a_10)),(4,.fn 52 []),(12,I (u20.1)),(13,I (u))],mkS (rtL [⟨0,4,((setI (setI data_9 a_10 e6) pivot_12 e7)).map enc_Event⟩] 1),2⟩)→Run Ffbs_E 1 Q (.code (cL (cL (cL (cR (cR (cR (cR Ffbs_c))))))) :: .lp (cL (cL (cL (cR (cR (cR (cR Ffbs_c))))))) :: .blk 2 :: K) ⟨mkTm .dead 178 [(0,.hs 1 0 [] 4 0 (((setI (setI data_9 a_10 e6) pivot_12 e7)).map enc_Event).length),(1,I (a_10)),(4,.fn 52 []),(12,I (u20.1)),(13,I (x21))],mkS (rtL [⟨0,4,((setI (setI data_9 a_10 e6) pivot_12 e7)).map enc_Event⟩] 1),2⟩) (Ffbs_lb_fin data_9 a_10 b_11 pivot_12 cmp_13 u20 e6 e7) ?_ h
 clear h y x21
 intro self ih x21 y h hr hn
 unfold Ffbs_lb_F at h
 refine ad 2 rfl ?_
 refine s_draw [0,0,3,7,15,15,15,111,239,15,15,1551,3599,8191,16383,32767,65535] rfl (by decide +kernel) ?_
 refine dp [] [] (I (u20.1)) rfl (e_move rfl) rfl (rfl) (by decide) ?_
 refine dp [] [] (I (x21)) rfl (e_move rfl) rfl (rfl) (by decide) ?_
 refine dp [] [] (B ((decide (u20.1 ≤ x21)))) rfl (e_bin rfl rfl rfl) rfl (rfl) (by decide) ?_
 refine dp [] [] (B ((decide (u20.1 ≤ x21)))) rfl (e_move rfl) rfl (rfl) (by decide) ?_
 obtain ⟨y22,hy22,hy221,hy222⟩:=bL h
 have j22 : ∀ u22,y22=.inr u22→Run Ffbs_E 1 Q (.code (cR (cL (cL (cL (cL (cR (cR (cR (cR Ffbs_c))))))))) :: .code (cR (cL (cL (cL (cR (cR (cR (cR Ffbs_c)))))))) :: .lp (cL (cL (cL (cR (cR (cR (cR Ffbs_c))))))) :: .blk 2 :: K) ⟨mkTm .dead 178 [(0,.hs 1 0 [] 4 0 (((setI (setI data_9 a_10 e6) pivot_12 e7)).map enc_Event).length),(1,I (a_10)),(4,.fn 52 []),(12,I (u20.1)),(13,I (x21)),(66,B (u22))],mkS (rtL [⟨0,4,((setI (setI data_9 a_10 e6) pivot_12 e7)).map enc_Event⟩] 1),2⟩:=by
   intro u22 hu
   replace h:=hy222 u22 hu
   refine sc h rfl rfl (fun h=>?_) (fun h=>?_)
   · refine ad 1 rfl ?_
     refine c0 7 [13] [I ((w64 (x21 - 1)))] 50 (by kernel_rfl) ?_
     refine s_lp ?_
     refine run_forget [0,1,4,12,13] [1] [⟨0,4,((setI (setI data_9 a_10 e6) pivot_12 e7)).map enc_Event⟩] rfl rfl rfl rfl ?_
     exact ih _ _ h hr hn
   · refine ad 1 rfl ?_
     refine run_forget [0,1,4,12,13] [1] [⟨0,4,((setI (setI data_9 a_10 e6) pivot_12 e7)).map enc_Event⟩] rfl rfl rfl hK ?_
     exact hn _ (Option.some.inj h).symm
 have r22 : ∀ r',y22=.inl r'→∀ st,Ffbs_Q (data_9,a_10,b_11,pivot_12,cmp_13) r' st→Q st:=fun r' e st hq=>hr r' (hy221 r' e) st hq
 replace h:=hy22
 refine sp 53 h rfl (fun h=>?_) (fun h=>?_)
 · refine dg [] [] (.fn 52 []) rfl rfl rfl (e_move rfl) rfl (rfl) (by decide) ?_
   refine dg [] [] (.hs 1 0 [] 4 0 (((setI (setI data_9 a_10 e6) pivot_12 e7)).map enc_Event).length) rfl rfl rfl (e_move rfl) rfl (rfl) (by decide) ?_
   refine dg [] [] (I (x21)) rfl rfl rfl (e_move rfl) rfl (rfl) (by decide) ?_
   obtain ⟨e23,he23,h⟩:=bS h
   refine dg [1] [] (.hp 1 0 [] 4 (0 + Int.toNat (x21)) 0) rfl rfl rfl (e_indexAddr rfl rfl rfl (ix_hsM (f:=enc_Event) (xs:=(setI (setI data_9 a_10 e6) pivot_12 e7)) rfl rfl rfl he23)) rfl (rfl) (by decide) ?_
   refine dg [1] [] (enc_Event e23) rfl rfl rfl (e_ld rfl (ld_at (path:=[]) rfl rfl rfl (ra_n) (get_map (f:=enc_Event) (xs:=(setI (setI data_9 a_10 e6) pivot_12 e7)) he23) rfl rfl rfl)) rfl (rfl) (by decide) ?_
   refine dg [] [] (.hs 1 0 [] 4 0 (((setI (setI data_9 a_10 e6) pivot_12 e7)).map enc_Event).length) rfl rfl rfl (e_move rfl) rfl (rfl) (by decide) ?_
   refine dg [] [] (I (a_10)) rfl rfl rfl (e_move rfl) rfl (rfl) (by decide) ?_
   obtain ⟨e24,he24,h⟩:=bS h
   refine dg [1] [] (.hp 1 0 [] 4 (0 + Int.toNat (a_10)) 0) rfl rfl rfl (e_indexAddr rfl rfl rfl (ix_hsM (f:=enc_Event) (xs:=(setI (setI data_9 a_10 e6) pivot_12 e7)) rfl rfl rfl he24)) rfl (rfl) (by decide) ?_
   refine dg [1] [] (enc_Event e24) rfl rfl rfl (e_ld rfl (ld_at (path:=[]) rfl rfl rfl (ra_n) (get_map (f:=enc_Event) (xs:=(setI (setI data_9 a_10 e6) pivot_12 e7)) he24) rfl rfl rfl)) rfl (rfl) (by decide) ?_
   obtain ⟨r25,hr25,h⟩:=bS h
   refine dg [] [] (I (r25)) rfl rfl rfl (e_callV rfl rfl (call_P rfl rfl rfl (avS (shP rfl) (avS (shP rfl) (avN))) (Fff_F hr25) (.inr rfl) (bl_n) rfl rfl rfl)) rfl (w_callO rfl rfl rfl rfl (avS (shP rfl) (avS (shP rfl) (avN))) (Fff_F hr25) (.inr rfl) rfl) (by decide) ?_
   refine dg [] [] (B ((decide (r25 < 0)))) rfl rfl rfl (e_bin rfl rfl rfl) rfl (rfl) (by decide) ?_
   refine dg [] [] (B ((!(decide (r25 < 0))))) rfl rfl rfl (e_un rfl rfl) rfl (rfl) (by decide) ?_
   refine dp [] [] (B ((!(decide (r25 < 0))))) rfl (e_pickT rfl rfl) rfl (rfl) (by decide) ?_
   refine de 274 rfl rfl ?_
   refine run_forget [0,1,4,12,13,66] [1] [⟨0,4,((setI (setI data_9 a_10 e6) pivot_12 e7)).map enc_Event⟩] rfl rfl rfl rfl ?_
   exact j22 _ (Option.some.inj h).symm
 · refine ds rfl rfl rfl (by decide) ?_
   refine ds rfl rfl rfl (by decide) ?_
   refine ds rfl rfl rfl (by decide) ?_
   refine ds rfl rfl rfl (by decide) ?_
   refine ds rfl rfl rfl (by decide) ?_
   refine ds rfl rfl rfl (by decide) ?_
   refine ds rfl rfl rfl (by decide) ?_
   refine ds rfl rfl rfl (by decide) ?_
   refine ds rfl rfl rfl (by decide) ?_
   refine ds rfl rfl rfl (by decide) ?_
   refine ds rfl rfl rfl (by decide) ?_
   refine ds rfl rfl rfl (by decide) ?_
   refine dp [] [] (B (false)) rfl (e_pickF rfl rfl) rfl (rfl) (by decide) ?_
   refine de 274 rfl rfl ?_
   refine run_forget [0,1,4,12,13,66] [1] [⟨0,4,((setI (setI data_9 a_10 e6) pivot_12 e7)).map enc_Event⟩] rfl rfl rfl rfl ?_
   exact j22 _ (Option.some.inj h).symm
theorem Ffbs_ld_run (data_9 : List Event) (a_10 : Int) (b_11 : Int) (pivot_12 : Int) (cmp_13 : Unit) (x46 : Int × Int × (List Event)) {Q : St→Prop} {K : List It} (hK : noD K=true) {x47 : Int} {y : (Int × Bool × (List Event)) ⊕ Int} (h : Ffbs_ld data_9 a_10 b_11 pivot_12 cmp_13 x46 x47=some y) : (∀ r',y=.inl r'→∀ st,Ffbs_Q (data_9,a_10,b_11,pivot_12,cmp_13) r' st→Q st)→(∀ u : Int,y=.inr u→Run Ffbs_E 1 Q K ⟨mkTm .dead 178 [(0,.hs 1 0 [] 4 0 ((x46.2.2).map enc_Event).length),(1,I (a_10)),(4,.fn 52 []),(12,I (u)),(13,I (x46.2.1))],mkS (rtL [⟨0,4,(x46.2.2).map enc_Event⟩] 1),2⟩)→Run Ffbs_E 1 Q (.code (cL (cL (cL (cL (cL (cL (cL (cR (cR (cR (cR (cR (cR (cR (cR (cR Ffbs_c)))))))))))))))) :: .lp (cL (cL (cL (cL (cL (cL (cL (cR (cR (cR (cR (cR (cR (cR (cR (cR Ffbs_c)))))))))))))))) :: .blk 6 :: K) ⟨mkTm .dead 178 [(0,.hs 1 0 [] 4 0 ((x46.2.2).map enc_Event).length),(1,I (a_10)),(4,.fn 52 []),(12,I (x47)),(13,I (x46.2.1))],mkS (rtL [⟨0,4,(x46.2.2).map enc_Event⟩] 1),2⟩:=by
 refine fix_ind (P:=fun (x47 : Int) (y : (Int × Bool × (List Event)) ⊕ Int)=>(∀ r',y=.inl r'→∀ st,Ffbs_Q (data_9,a_10,b_11,pivot_12,cmp_13) r' st→Q st)→(∀ u : Int,y=.inr u→Run Ffbs_E 1 Q K ⟨mkTm .dead 178 [(0,.hs 1 0 [] 4 0 ((x46.2.2).map enc_Event).length),(1,I (a_10)),(4,.fn 52 []),(12,I (u)),(13,I (x46.2.1))],mkS (rtL [⟨0,4,(x46.2.2).map enc_Event⟩] 1),2⟩)→Run Ffbs_E 1 Q (.code (cL (cL (cL (cL (cL (cL (cL (cR (cR (cR (cR (cR (cR (cR (cR (cR Ffbs_c)))))))))))))))) :: .lp (cL (cL (cL (cL (cL (cL (cL (cR (cR (cR (cR (cR (cR (cR (cR (cR Ffbs_c)))))))))))))))) :: .blk 6 :: K) ⟨mkTm .dead 178 [(0,.hs 1 0 [] 4 0 ((x46.2.2).map enc_Event).length),(1,I (a_10)),(4,.fn 52 []),(12,I (x47)),(13,I (x46.2.1))],mkS (rtL [⟨0,4,(x46.2.2).map enc_Event⟩] 1),2⟩) (Ffbs_ld_fin data_9 a_10 b_11 pivot_12 cmp_13 x46) ?_ h
 clear h y x47
 intro self ih x47 y h hr hn
 unfold Ffbs_ld_F at h
 refine ad 2 rfl ?_
 refine s_draw [0,0,3,7,15,15,15,111,239,15,15,1551,3599,8191,16383,32767] rfl (by decide +kernel) ?_
 refine dp [] [] (I (x47)) rfl (e_move rfl) rfl (rfl) (by decide) ?_
 refine dp [] [] (I (x46.2.1)) rfl (e_move rfl) rfl (rfl) (by decide) ?_
 refine dp [] [] (B ((decide (x47 ≤ x46.2.1)))) rfl (e_bin rfl rfl rfl) rfl (rfl) (by decide) ?_
 refine dp [] [] (B ((decide (x47 ≤ x46.2.1)))) rfl (e_move rfl) rfl (rfl) (by decide) ?_
 obtain ⟨y48,hy48,hy481,hy482⟩:=bL h
 have j48 : ∀ u48,y48=.inr u48→Run Ffbs_E 1 Q (.code (cR (cL (cL (cL (cL (cL (cL (cL (cL (cR (cR (cR (cR (cR (cR (cR (cR (cR Ffbs_c)))))))))))))))))) :: .code (cR (cL (cL (cL (cL (cL (cL (cL (cR (cR (cR (cR (cR (cR (cR (cR (cR Ffbs_c))))))))))))))))) :: .lp (cL (cL (cL (cL (cL (cL (cL (cR (cR (cR (cR (cR (cR (cR (cR (cR Ffbs_c)))))))))))))))) :: .blk 6 :: K) ⟨mkTm .dead 178 [(0,.hs 1 0 [] 4 0 ((x46.2.2).map enc_Event).length),(1,I (a_10)),(4,.fn 52 []),(12,I (x47)),(13,I (x46.2.1)),(120,B (u48))],mkS (rtL [⟨0,4,(x46.2.2).map enc_Event⟩] 1),2⟩:=by
   intro u48 hu
   replace h:=hy482 u48 hu
   refine sc h rfl rfl (fun h=>?_) (fun h=>?_)
   · refine ad 1 rfl ?_
     refine c0 7 [12] [I ((w64 (x47 + 1)))] 50 (by kernel_rfl) ?_
     refine s_lp ?_
     refine run_forget [0,1,4,12,13] [1] [⟨0,4,(x46.2.2).map enc_Event⟩] rfl rfl rfl rfl ?_
     exact ih _ _ h hr hn
   · refine ad 1 rfl ?_
     refine run_forget [0,1,4,12,13] [1] [⟨0,4,(x46.2.2).map enc_Event⟩] rfl rfl rfl hK ?_
     exact hn _ (Option.some.inj h).symm
 have r48 : ∀ r',y48=.inl r'→∀ st,Ffbs_Q (data_9,a_10,b_11,pivot_12,cmp_13) r' st→Q st:=fun r' e st hq=>hr r' (hy481 r' e) st hq
 replace h:=hy48
 refine sp 108 h rfl (fun h=>?_) (fun h=>?_)
 · refine dg [] [] (.fn 52 []) rfl rfl rfl (e_move rfl) rfl (rfl) (by decide) ?_
   refine dg [] [] (.hs 1 0 [] 4 0 ((x46.2.2).map enc_Event).length) rfl rfl rfl (e_move rfl) rfl (rfl) (by decide) ?_
   refine dg [] [] (I (x47)) rfl rfl rfl (e_move rfl) rfl (rfl) (by decide) ?_
   obtain ⟨e49,he49,h⟩:=bS h
   refine dg [1] [] (.hp 1 0 [] 4 (0 + Int.toNat (x47)) 0) rfl rfl rfl (e_indexAddr rfl rfl rfl (ix_hsM (f:=enc_Event) (xs:=x46.2.2) rfl rfl rfl he49)) rfl (rfl) (by decide) ?_
   refine dg [1] [] (enc_Event e49) rfl rfl rfl (e_ld rfl (ld_at (path:=[]) rfl rfl rfl (ra_n) (get_map (f:=enc_Event) (xs:=x46.2.2) he49) rfl rfl rfl)) rfl (rfl) (by decide) ?_
   refine dg [] [] (.hs 1 0 [] 4 0 ((x46.2.2).map enc_Event).length) rfl rfl rfl (e_move rfl) rfl (rfl) (by decide) ?_
   refine dg [] [] (I (a_10)) rfl rfl rfl (e_move rfl) rfl (rfl) (by decide) ?_
   obtain ⟨e50,he50,h⟩:=bS h
   refine dg [1] [] (.hp 1 0 [] 4 (0 + Int.toNat (a_10)) 0) rfl rfl rfl (e_indexAddr rfl rfl rfl (ix_hsM (f:=enc_Event) (xs:=x46.2.2) rfl rfl rfl he50)) rfl (rfl) (by decide) ?_
   refine dg [1] [] (enc_Event e50) rfl rfl rfl (e_ld rfl (ld_at (path:=[]) rfl rfl rfl (ra_n) (get_map (f:=enc_Event) (xs:=x46.2.2) he50) rfl rfl rfl)) rfl (rfl) (by decide) ?_
   obtain ⟨r51,hr51,h⟩:=bS h
   refine dg [] [] (I (r51)) rfl rfl rfl (e_callV rfl rfl (call_P rfl rfl rfl (avS (shP rfl) (avS (shP rfl) (avN))) (Fff_F hr51) (.inr rfl) (bl_n) rfl rfl rfl)) rfl (w_callO rfl rfl rfl rfl (avS (shP rfl) (avS (shP rfl) (avN))) (Fff_F hr51) (.inr rfl) rfl) (by decide) ?_
   refine dg [] [] (B ((decide (r51 < 0)))) rfl rfl rfl (e_bin rfl rfl rfl) rfl (rfl) (by decide) ?_
   refine dp [] [] (B ((decide (r51 < 0)))) rfl (e_pickT rfl rfl) rfl (rfl) (by decide) ?_
   refine de 258 rfl rfl ?_
   refine run_forget [0,1,4,12,13,120] [1] [⟨0,4,(x46.2.2).map enc_Event⟩] rfl rfl rfl rfl ?_
   exact j48 _ (Option.some.inj h).symm
 · refine ds rfl rfl rfl (by decide) ?_
   refine ds rfl rfl rfl (by decide) ?_
   refine ds rfl rfl rfl (by decide) ?_
   refine ds rfl rfl rfl (by decide) ?_
   refine ds rfl rfl rfl (by decide) ?_
   refine ds rfl rfl rfl (by decide) ?_
   refine ds rfl rfl rfl (by decide) ?_
   refine ds rfl rfl rfl (by decide) ?_
   refine ds rfl rfl rfl (by decide) ?_
   refine ds rfl rfl rfl (by decide) ?_
   refine ds rfl rfl rfl (by decide) ?_
   refine dp [] [] (B (false)) rfl (e_pickF rfl rfl) rfl (rfl) (by decide) ?_
   refine de 258 rfl rfl ?_
   refine run_forget [0,1,4,12,13,120] [1] [⟨0,4,(x46.2.2).map enc_Event⟩] rfl rfl rfl rfl ?_
   exact j48 _ (Option.some.inj h).symm
theorem Ffbs_le_run (data_9 : List Event) (a_10 : Int) (b_11 : Int) (pivot_12 : Int) (cmp_13 : Unit) (u52 : Int) (x46 : Int × Int × (List Event)) {Q : St→Prop} {K : List It} (hK : noD K=true) {x53 : Int} {y : (Int × Bool × (List Event)) ⊕ Int} (h : Ffbs_le data_9 a_10 b_11 pivot_12 cmp_13 u52 x46 x53=some y) : (∀ r',y=.inl r'→∀ st,Ffbs_Q (data_9,a_10,b_11,pivot_12,cmp_13) r' st→Q st)→(∀ u : Int,y=.inr u→Run Ffbs_E 1 Q K ⟨mkTm .dead 178 [(0,.hs 1 0 [] 4 0 ((x46.2.2).map enc_Event).length),(1,I (a_10)),(4,.fn 52 []),(12,I (u52)),(13,I (u))],mkS (rtL [⟨0,4,(x46.2.2).map enc_Event⟩] 1),2⟩)→Run Ffbs_E 1 Q (.code (cL (cL (cL (cR (cL (cL (cL (cL (cR (cR (cR (cR (cR (cR (cR (cR (cR Ffbs_c))))))))))))))))) :: .lp (cL (cL (cL (cR (cL (cL (cL (cL (cR (cR (cR (cR (cR (cR (cR (cR (cR Ffbs_c))))))))))))))))) :: .blk 8 :: K) ⟨mkTm .dead 178 [(0,.hs 1 0 [] 4 0 ((x46.2.2).map enc_Event).length),(1,I (a_10)),(4,.fn 52 []),(12,I (u52)),(13,I (x53))],mkS (rtL [⟨0,4,(x46.2.2).map enc_Event⟩] 1),2⟩:=by
 refine fix_ind (P:=fun (x53 : Int) (y : (Int × Bool × (List Event)) ⊕ Int)=>(∀ r',y=.inl r'→∀ st,Ffbs_Q (data_9,a_10,b_11,pivot_12,cmp_13) r' st→Q st)→(∀ u : Int,y=.inr u→Run Ffbs_E 1 Q K ⟨mkTm .dead 178 [(0,.hs 1 0 [] 4 0 ((x46.2.2).map enc_Event).length),(1,I (a_10)),(4,.fn 52 []),(12,I (u52)),(13,I (u))],mkS (rtL [⟨0,4,(x46.2.2).map enc_Event⟩] 1),2⟩)→Run Ffbs_E 1 Q (.code (cL (cL (cL (cR (cL (cL (cL (cL (cR (cR (cR (cR (cR (cR (cR (cR (cR Ffbs_c))))))))))))))))) :: .lp (cL (cL (cL (cR (cL (cL (cL (cL (cR (cR (cR (cR (cR (cR (cR (cR (cR Ffbs_c))))))))))))))))) :: .blk 8 :: K) ⟨mkTm .dead 178 [(0,.hs 1 0 [] 4 0 ((x46.2.2).map enc_Event).length),(1,I (a_10)),(4,.fn 52 []),(12,I (u52)),(13,I (x53))],mkS (rtL [⟨0,4,(x46.2.2).map enc_Event⟩] 1),2⟩) (Ffbs_le_fin data_9 a_10 b_11 pivot_12 cmp_13 u52 x46) ?_ h
 clear h y x53
 intro self ih x53 y h hr hn
 unfold Ffbs_le_F at h
 refine ad 2 rfl ?_
 refine s_draw [0,0,3,7,15,15,15,111,239,15,15,1551,3599,8191,16383,32767,65535] rfl (by decide +kernel) ?_
 refine dp [] [] (I (u52)) rfl (e_move rfl) rfl (rfl) (by decide) ?_
 refine dp [] [] (I (x53)) rfl (e_move rfl) rfl (rfl) (by decide) ?_
 refine dp [] [] (B ((decide (u52 ≤ x53)))) rfl (e_bin rfl rfl rfl) rfl (rfl) (by decide) ?_
 refine dp [] [] (B ((decide (u52 ≤ x53)))) rfl (e_move rfl) rfl (rfl) (by decide) ?_
 obtain ⟨y54,hy54,hy541,hy542⟩:=bL h
 have j54 : ∀ u54,y54=.inr u54→Run Ffbs_E 1 Q (.code (cR (cL (cL (cL (cL (cR (cL (cL (cL (cL (cR (cR (cR (cR (cR (cR (cR (cR (cR Ffbs_c))))))))))))))))))) :: .code (cR (cL (cL (cL (cR (cL (cL (cL (cL (cR (cR (cR (cR (cR (cR (cR (cR (cR Ffbs_c)))))))))))))))))) :: .lp (cL (cL (cL (cR (cL (cL (cL (cL (cR (cR (cR (cR (cR (cR (cR (cR (cR Ffbs_c))))))))))))))))) :: .blk 8 :: K) ⟨mkTm .dead 178 [(0,.hs 1 0 [] 4 0 ((x46.2.2).map enc_Event).length),(1,I (a_10)),(4,.fn 52 []),(12,I (u52)),(13,I (x53)),(139,B (u54))],mkS (rtL [⟨0,4,(x46.2.2).map enc_Event⟩] 1),2⟩:=by
   intro u54 hu
   replace h:=hy542 u54 hu
   refine sc h rfl rfl (fun h=>?_) (fun h=>?_)
   · refine ad 1 rfl ?_
     refine c0 7 [13] [I ((w64 (x53 - 1)))] 50 (by kernel_rfl) ?_
     refine s_lp ?_
     refine run_forget [0,1,4,12,13] [1] [⟨0,4,(x46.2.2).map enc_Event⟩] rfl rfl rfl rfl ?_
     exact ih _ _ h hr hn
   · refine ad 1 rfl ?_
     refine run_forget [0,1,4,12,13] [1] [⟨0,4,(x46.2.2).map enc_Event⟩] rfl rfl rfl hK ?_
     exact hn _ (Option.some.inj h).symm
 have r54 : ∀ r',y54=.inl r'→∀ st,Ffbs_Q (data_9,a_10,b_11,pivot_12,cmp_13) r' st→Q st:=fun r' e st hq=>hr r' (hy541 r' e) st hq
 replace h:=hy54
 refine sp 126 h rfl (fun h=>?_) (fun h=>?_)
 · refine dg [] [] (.fn 52 []) rfl rfl rfl (e_move rfl) rfl (rfl) (by decide) ?_
   refine dg [] [] (.hs 1 0 [] 4 0 ((x46.2.2).map enc_Event).length) rfl rfl rfl (e_move rfl) rfl (rfl) (by decide) ?_
   refine dg [] [] (I (x53)) rfl rfl rfl (e_move rfl) rfl (rfl) (by decide) ?_
   obtain ⟨e55,he55,h⟩:=bS h
   refine dg [1] [] (.hp 1 0 [] 4 (0 + Int.toNat (x53)) 0) rfl rfl rfl (e_indexAddr rfl rfl rfl (ix_hsM (f:=enc_Event) (xs:=x46.2.2) rfl rfl rfl he55)) rfl (rfl) (by decide) ?_
   refine dg [1] [] (enc_Event e55) rfl rfl rfl (e_ld rfl (ld_at (path:=[]) rfl rfl rfl (ra_n) (get_map (f:=enc_Event) (xs:=x46.2.2) he55) rfl rfl rfl)) rfl (rfl) (by decide) ?_
   refine dg [] [] (.hs 1 0 [] 4 0 ((x46.2.2).map enc_Event).length) rfl rfl rfl (e_move rfl) rfl (rfl) (by decide) ?_
   refine dg [] [] (I (a_10)) rfl rfl rfl (e_move rfl) rfl (rfl) (by decide) ?_
   obtain ⟨e56,he56,h⟩:=bS h
   refine dg [1] [] (.hp 1 0 [] 4 (0 + Int.toNat (a_10)) 0) rfl rfl rfl (e_indexAddr rfl rfl rfl (ix_hsM (f:=enc_Event) (xs:=x46.2.2) rfl rfl rfl he56)) rfl (rfl) (by decide) ?_
   refine dg [1] [] (enc_Event e56) rfl rfl rfl (e_ld rfl (ld_at (path:=[]) rfl rfl rfl (ra_n) (get_map (f:=enc_Event) (xs:=x46.2.2) he56) rfl rfl rfl)) rfl (rfl) (by decide) ?_
   obtain ⟨r57,hr57,h⟩:=bS h
   refine dg [] [] (I (r57)) rfl rfl rfl (e_callV rfl rfl (call_P rfl rfl rfl (avS (shP rfl) (avS (shP rfl) (avN))) (Fff_F hr57) (.inr rfl) (bl_n) rfl rfl rfl)) rfl (w_callO rfl rfl rfl rfl (avS (shP rfl) (avS (shP rfl) (avN))) (Fff_F hr57) (.inr rfl) rfl) (by decide) ?_
   refine dg [] [] (B ((decide (r57 < 0)))) rfl rfl rfl (e_bin rfl rfl rfl) rfl (rfl) (by decide) ?_
   refine dg [] [] (B ((!(decide (r57 < 0))))) rfl rfl rfl (e_un rfl rfl) rfl (rfl) (by decide) ?_
   refine dp [] [] (B ((!(decide (r57 < 0))))) rfl (e_pickT rfl rfl) rfl (rfl) (by decide) ?_
   refine de 274 rfl rfl ?_
   refine run_forget [0,1,4,12,13,139] [1] [⟨0,4,(x46.2.2).map enc_Event⟩] rfl rfl rfl rfl ?_
   exact j54 _ (Option.some.inj h).symm
 · refine ds rfl rfl rfl (by decide) ?_
   refine ds rfl rfl rfl (by decide) ?_
   refine ds rfl rfl rfl (by decide) ?_
   refine ds rfl rfl rfl (by decide) ?_
   refine ds rfl rfl rfl (by decide) ?_
   refine ds rfl rfl rfl (by decide) ?_
   refine ds rfl rfl rfl (by decide) ?_
   refine ds rfl rfl rfl (by decide) ?_
   refine ds rfl rfl rfl (by decide) ?_
   refine ds rfl rfl rfl (by decide) ?_
   refine ds rfl rfl rfl (by decide) ?_
   refine ds rfl rfl rfl (by decide) ?_
   refine dp [] [] (B (false)) rfl (e_pickF rfl rfl) rfl (rfl) (by decide) ?_
   refine de 274 rfl rfl ?_
   refine run_forget [0,1,4,12,13,139] [1] [⟨0,4,(x46.2.2).map enc_Event⟩] rfl rfl rfl rfl ?_
   exact j54 _ (Option.some.inj h).symm
theorem Ffbs_lc_run (data_9 : List Event) (a_10 : Int) (b_11 : Int) (pivot_12 : Int) (cmp_13 : Unit)  {Q : St→Prop} {K : List It} (hK : noD K=true) {x46 : Int × Int × (List Event)} {y : (Int × Bool × (List Event)) ⊕ (Int × (List Event))} (h : Ffbs_lc data_9 a_10 b_11 pivot_12 cmp_13 x46=some y) : (∀ r',y=.inl r'→∀ st,Ffbs_Q (data_9,a_10,b_11,pivot_12,cmp_13) r' st→Q st)→(∀ u : Int × (List Event),y=.inr u→Run Ffbs_E 1 Q K ⟨mkTm .dead 178 [(0,.hs 1 0 [] 4 0 ((u.2).map enc_Event).length),(1,I (a_10)),(13,I (u.1))],mkS (rtL [⟨0,4,(u.2).map enc_Event⟩] 1),2⟩)→Run Ffbs_E 1 Q (.code (cL (cL (cL (cR (cR (cR (cR (cR (cR (cR (cR (cR Ffbs_c)))))))))))) :: .lp (cL (cL (cL (cR (cR (cR (cR (cR (cR (cR (cR (cR Ffbs_c)))))))))))) :: .blk 4 :: K) ⟨mkTm .dead 178 [(0,.hs 1 0 [] 4 0 ((x46.2.2).map enc_Event).length),(1,I (a_10)),(4,.fn 52 []),(12,I (x46.1)),(13,I (x46.2.1))],mkS (rtL [⟨0,4,(x46.2.2).map enc_Event⟩] 1),2⟩:=by
 refine fix_ind (P:=fun (x46 : Int × Int × (List Event)) (y : (Int × Bool × (List Event)) ⊕ (Int × (List Event)))=>(∀ r',y=.inl r'→∀ st,Ffbs_Q (data_9,a_10,b_11,pivot_12,cmp_13) r' st→Q st)→(∀ u : Int × (List Event),y=.inr u→Run Ffbs_E 1 Q K ⟨mkTm .dead 178 [(0,.hs 1 0 [] 4 0 ((u.2).map enc_Event).length),(1,I (a_10)),(13,I (u.1))],mkS (rtL [⟨0,4,(u.2).map enc_Event⟩] 1),2⟩)→Run Ffbs_E 1 Q (.code (cL (cL (cL (cR (cR (cR (cR (cR (cR (cR (cR (cR Ffbs_c)))))))))))) :: .lp (cL (cL (cL (cR (cR (cR (cR (cR (cR (cR (cR (cR Ffbs_c)))))))))))) :: .blk 4 :: K) ⟨mkTm .dead 178 [(0,.hs 1 0 [] 4 0 ((x46.2.2).map enc_Event).length),(1,I (a_10)),(4,.fn 52 []),(12,I (x46.1)),(13,I (x46.2.1))],mkS (rtL [⟨0,4,(x46.2.2).map enc_Event⟩] 1),2⟩) (Ffbs_lc_fin data_9 a_10 b_11 pivot_12 cmp_13) ?_ h
 clear h y x46
 intro self ih x46 y h hr hn
 unfold Ffbs_lc_F at h
 refine ad 3 rfl ?_
 obtain ⟨y52,hy52,hy521,hy522⟩:=bL h
 refine s_loop rfl ?_
 refine run_forget [0,1,4,12,13] [1] [⟨0,4,(x46.2.2).map enc_Event⟩] rfl rfl rfl rfl ?_
 refine Ffbs_ld_run data_9 a_10 b_11 pivot_12 cmp_13 x46 rfl hy52 (fun r' e st hq=>hr r' (hy521 r' e) st hq) (fun u52 hu=>?_)
 replace h:=hy522 u52 hu
 refine ad 2 rfl ?_
 obtain ⟨y58,hy58,hy581,hy582⟩:=bL h
 refine s_loop rfl ?_
 refine run_forget [0,1,4,12,13] [1] [⟨0,4,(x46.2.2).map enc_Event⟩] rfl rfl rfl rfl ?_
 refine Ffbs_le_run data_9 a_10 b_11 pivot_12 cmp_13 u52 x46 rfl hy58 (fun r' e st hq=>hr r' (hy581 r' e) st hq) (fun u58 hu=>?_)
 replace h:=hy582 u58 hu
 refine c0 7 [144] [B ((decide (u52 > u58)))] 50 (by kernel_rfl) ?_
 refine sc h rfl rfl (fun h=>?_) (fun h=>?_)
 · refine ad 1 rfl ?_
   refine run_forget [0,1,13] [1] [⟨0,4,(x46.2.2).map enc_Event⟩] rfl rfl rfl hK ?_
   exact hn _ (Option.some.inj h).symm
 · refine ad 1 rfl ?_
   refine ad 1 rfl ?_
   refine s_draw [0,0,0,0,0,0,48,112,0,0,768,1792,4083,8179,16383,32767] rfl (by decide +kernel) ?_
   refine dp [] [] (.hs 1 0 [] 4 0 ((x46.2.2).map enc_Event).length) rfl (e_move rfl) rfl (rfl) (by decide) ?_
   refine dp [] [] (I (u52)) rfl (e_move rfl) rfl (rfl) (by decide) ?_
   refine dp [] [] (.hs 1 0 [] 4 0 ((x46.2.2).map enc_Event).length) rfl (e_move rfl) rfl (rfl) (by decide) ?_
   refine dp [] [] (I (u58)) rfl (e_move rfl) rfl (rfl) (by decide) ?_
   refine dp [] [] (.hs 1 0 [] 4 0 ((x46.2.2).map enc_Event).length) rfl (e_move rfl) rfl (rfl) (by decide) ?_
   refine dp [] [] (I (u58)) rfl (e_move rfl) rfl (rfl) (by decide) ?_
   obtain ⟨e59,he59,h⟩:=bS h
   refine dp [1] [] (.hp 1 0 [] 4 (0 + Int.toNat (u58)) 0) rfl (e_indexAddr rfl rfl rfl (ix_hsM (f:=enc_Event) (xs:=x46.2.2) rfl rfl rfl he59)) rfl (rfl) (by decide) ?_
   refine dp [1] [] (enc_Event e59) rfl (e_ld rfl (ld_at (path:=[]) rfl rfl rfl (ra_n) (get_map (f:=enc_Event) (xs:=x46.2.2) he59) rfl rfl rfl)) rfl (rfl) (by decide) ?_
   refine dp [] [] (.hs 1 0 [] 4 0 ((x46.2.2).map enc_Event).length) rfl (e_move rfl) rfl (rfl) (by decide) ?_
   refine dp [] [] (I (u52)) rfl (e_move rfl) rfl (rfl) (by decide) ?_
   obtain ⟨e60,he60,h⟩:=bS h
   refine dp [1] [] (.hp 1 0 [] 4 (0 + Int.toNat (u52)) 0) rfl (e_indexAddr rfl rfl rfl (ix_hsM (f:=enc_Event) (xs:=x46.2.2) rfl rfl rfl he60)) rfl (rfl) (by decide) ?_
   refine dp [1] [] (enc_Event e60) rfl (e_ld rfl (ld_at (path:=[]) rfl rfl rfl (ra_n) (get_map (f:=enc_Event) (xs:=x46.2.2) he60) rfl rfl rfl)) rfl (rfl) (by decide) ?_
   obtain ⟨e61,he61,h⟩:=bS h
   refine dp [1] [] (.hp 1 0 [] 4 (0 + Int.toNat (u52)) 0) rfl (e_indexAddr rfl rfl rfl (ix_hsM (f:=enc_Event) (xs:=x46.2.2) rfl rfl rfl he61)) rfl (rfl) (by decide) ?_
   obtain ⟨w62,hw62⟩ : ∃ w,getI (setI x46.2.2 u52 e59) u58=some w:=get_exI he59
   obtain ⟨w63,hw63⟩ : ∃ w,getI (setI x46.2.2 u52 e59) u52=some w:=get_exI he60
   refine dp0 [1] [1] rfl (e_st rfl rfl (st_at (path:=[]) (pl:=true) (e':=enc_Event e59) (es2':=((setI x46.2.2 u52 e59)).map enc_Event) rfl (absorb_plain rfl) rfl rfl rfl (ra_n) (get_map (f:=enc_Event) (xs:=x46.2.2) he61) rfl rfl rfl (set_map (f:=enc_Event) (xs:=x46.2.2) (y:=e59)) (sr_n) 0 rfl)) rfl (rfl) (by decide) ?_
   try rw [← len_setM (f:=enc_Event) (xs:=x46.2.2) (i:=u52) (z:=e59)]
   obtain ⟨e64,he64,h⟩:=bS h
   refine dp [1] [] (.hp 1 0 [] 4 (0 + Int.toNat (u58)) 0) rfl (e_indexAddr rfl rfl rfl (ix_hsM (f:=enc_Event) (xs:=(setI x46.2.2 u52 e59)) rfl rfl rfl he64)) rfl (rfl) (by decide) ?_
   obtain ⟨w65,hw65⟩ : ∃ w,getI (setI (setI x46.2.2 u52 e59) u58 e60) u58=some w:=get_exI hw62
   obtain ⟨w66,hw66⟩ : ∃ w,getI (setI (setI x46.2.2 u52 e59) u58 e60) u52=some w:=get_exI hw63
   obtain ⟨w67,hw67⟩ : ∃ w,getI (setI (setI x46.2.2 u52 e59) u58 e60) u52=some w:=get_exI (get_set he61)
   refine dp0 [1] [1] rfl (e_st rfl rfl (st_at (path:=[]) (pl:=true) (e':=enc_Event e60) (es2':=((setI (setI x46.2.2 u52 e59) u58 e60)).map enc_Event) rfl (absorb_plain rfl) rfl rfl rfl (ra_n) (get_map (f:=enc_Event) (xs:=(setI x46.2.2 u52 e59)) he64) rfl rfl rfl (set_map (f:=enc_Event) (xs:=(setI x46.2.2 u52 e59)) (y:=e60)) (sr_n) 0 rfl)) rfl (rfl) (by decide) ?_
   try rw [← len_setM (f:=enc_Event) (xs:=(setI x46.2.2 u52 e59)) (i:=u58) (z:=e60)]
   refine de 306 rfl rfl ?_
   refine c0 12 [12,13] [I ((w64 (u52 + 1))),I ((w64 (u58 - 1)))] 402 (by kernel_rfl) ?_
   refine s_lp ?_
   refine run_forget [0,1,4,12,13] [1] [⟨0,4,((setI (setI x46.2.2 u52 e59) u58 e60)).map enc_Event⟩] rfl rfl rfl rfl ?_
   exact ih _ _ h hr hn
theorem Ffbs_run (data_9 : List Event) (a_10 : Int) (b_11 : Int) (pivot_12 : Int) (cmp_13 : Unit) (r : Int × Bool × (List Event)) (h : Ffbs data_9 a_10 b_11 pivot_12 cmp_13=some r) : RunF Ffbs_E Tryd.f122 [true,false,false,false,false] 1 (Ffbs_A (data_9,a_10,b_11,pivot_12,cmp_13)) (Ffbs_R r):=by
 show Run _ _ (Ffbs_Q (data_9,a_10,b_11,pivot_12,cmp_13) r) [.code Ffbs_c] _
 refine rin (n:=178) [(0,.hs 1 0 [] 4 0 ((data_9).map enc_Event).length),(1,I (a_10)),(2,I (b_11)),(3,I (pivot_12)),(4,.fn 52 [])] [(1,some ⟨0,4,(data_9).map enc_Event⟩)] 2 (by kernel_rfl) (by kernel_rfl) (by kernel_rfl) rfl ?_
 unfold Ffbs at h
 refine c0 6 [] [] 34 (by kernel_rfl) ?_
 refine s_draw [0,0,0,0,0,0,48,112,0,0,768,1792,4083,8179,16383,32767] rfl (by decide +kernel) ?_
 refine dp [] [] (.hs 1 0 [] 4 0 ((data_9).map enc_Event).length) rfl (e_move rfl) rfl (rfl) (by decide) ?_
 refine dp [] [] (I (a_10)) rfl (e_move rfl) rfl (rfl) (by decide) ?_
 refine dp [] [] (.hs 1 0 [] 4 0 ((data_9).map enc_Event).length) rfl (e_move rfl) rfl (rfl) (by decide) ?_
 refine dp [] [] (I (pivot_12)) rfl (e_move rfl) rfl (rfl) (by decide) ?_
 refine dp [] [] (.hs 1 0 [] 4 0 ((data_9).map enc_Event).length) rfl (e_move rfl) rfl (rfl) (by decide) ?_
 refine dp [] [] (I (pivot_12)) rfl (e_move rfl) rfl (rfl) (by decide) ?_
 obtain ⟨e6,he6,h⟩:=bS h
 refine dp [1] [] (.hp 1 0 [] 4 (0 + Int.toNat (pivot_12)) 0) rfl (e_indexAddr rfl rfl rfl (ix_hsM (f:=enc_Event) (xs:=data_9) rfl rfl rfl he6)) rfl (rfl) (by decide) ?_
 refine dp [1] [] (enc_Event e6) rfl (e_ld rfl (ld_at (path:=[]) rfl rfl rfl (ra_n) (get_map (f:=enc_Event) (xs:=data_9) he6) rfl rfl rfl)) rfl (rfl) (by decide) ?_
 refine dp [] [] (.hs 1 0 [] 4 0 ((data_9).map enc_Event).length) rfl (e_move rfl) rfl (rfl) (by decide) ?_
 refine dp [] [] (I (a_10)) rfl (e_move rfl) rfl (rfl) (by decide) ?_
 obtain ⟨e7,he7,h⟩:=bS h
 refine dp [1] [] (.hp 1 0 [] 4 (0 + Int.toNat (a_10)) 0) rfl (e_indexAddr rfl rfl rfl (ix_hsM (f:=enc_Event) (xs:=data_9) rfl rfl rfl he7)) rfl (rfl) (by decide) ?_
 refine dp [1] [] (enc_Event e7) rfl (e_ld rfl (ld_at (path:=[]) rfl rfl rfl (ra_n) (get_map (f:=enc_Event) (xs:=data_9) he7) rfl rfl rfl)) rfl (rfl) (by decide) ?_
 obtain ⟨e8,he8,h⟩:=bS h
 refine dp [1] [] (.hp 1 0 [] 4 (0 + Int.toNat (a_10)) 0) rfl (e_indexAddr rfl rfl rfl (ix_hsM (f:=enc_Event) (xs:=data_9) rfl rfl rfl he8)) rfl (rfl) (by decide) ?_
 obtain ⟨w9,hw9⟩ : ∃ w,getI (setI data_9 a_10 e6) pivot_12=some w:=get_exI he6
 obtain ⟨w10,hw10⟩ : ∃ w,getI (setI data_9 a_10 e6) a_10=some w:=get_exI he7
 refine dp0 [1] [1] rfl (e_st rfl rfl (st_at (path:=[]) (pl:=true) (e':=enc_Event e6) (es2':=((setI data_9 a_10 e6)).map enc_Event) rfl (absorb_plain rfl) rfl rfl rfl (ra_n) (get_map (f:=enc_Event) (xs:=data_9) he8) rfl rfl rfl (set_map (f:=enc_Event) (xs:=data_9) (y:=e6)) (sr_n) 0 rfl)) rfl (rfl) (by decide) ?_
 try rw [← len_setM (f:=enc_Event) (xs:=data_9) (i:=a_10) (z:=e6)]
 obtain ⟨e11,he11,h⟩:=bS h
 refine dp [1] [] (.hp 1 0 [] 4 (0 + Int.toNat (pivot_12)) 0) rfl (e_indexAddr rfl rfl rfl (ix_hsM (f:=enc_Event) (xs:=(setI data_9 a_10 e6)) rfl rfl rfl he11)) rfl (rfl) (by decide) ?_
 obtain ⟨w12,hw12⟩ : ∃ w,getI (setI (setI data_9 a_10 e6) pivot_12 e7) pivot_12=some w:=get_exI hw9
 obtain ⟨w13,hw13⟩ : ∃ w,getI (setI (setI data_9 a_10 e6) pivot_12 e7) a_10=some w:=get_exI hw10
 obtain ⟨w14,hw14⟩ : ∃ w,getI (setI (setI data_9 a_10 e6) pivot_12 e7) a_10=some w:=get_exI (get_set he8)
 refine dp0 [1] [1] rfl (e_st rfl rfl (st_at (path:=[]) (pl:=true) (e':=enc_Event e7) (es2':=((setI (setI data_9 a_10 e6) pivot_12 e7)).map enc_Event) rfl (absorb_plain rfl) rfl rfl rfl (ra_n) (get_map (f:=enc_Event) (xs:=(setI data_9 a_10 e6)) he11) rfl rfl rfl (set_map (f:=enc_Event) (xs:=(setI data_9 a_10 e6)) (y:=e7)) (sr_n) 0 rfl)) rfl (rfl) (by decide) ?_
 try rw [← len_setM (f:=enc_Event) (xs:=(setI data_9 a_10 e6)) (i:=pivot_12) (z:=e7)]
 refine de 290 rfl rfl ?_
 refine c0 11 [12,13] [I ((w64 (a_10 + 1))),I ((w64 (b_11 - 1)))] 386 (by kernel_rfl) ?_
 obtain ⟨y20,hy20,hy201,hy202⟩:=bJ h
 refine s_loop rfl ?_
 refine run_forget [0,1,4,12,13] [1] [⟨0,4,((setI (setI data_9 a_10 e6) pivot_12 e7)).map enc_Event⟩] rfl rfl rfl rfl ?_
 refine Ffbs_la_run data_9 a_10 b_11 pivot_12 cmp_13 e6 e7 rfl hy20 (fun r' e st hq=>by rw [hy201 r' e] at hq; exact hq) (fun u20 hu=>?_)
 replace h:=hy202 u20 hu
 refine ad 2 rfl ?_
 obtain ⟨y26,hy26,hy261,hy262⟩:=bJ h
 refine s_loop rfl ?_
 refine run_forget [0,1,4,12,13] [1] [⟨0,4,((setI (setI data_9 a_10 e6) pivot_12 e7)).map enc_Event⟩] rfl rfl rfl rfl ?_
 refine Ffbs_lb_run data_9 a_10 b_11 pivot_12 cmp_13 u20 e6 e7 rfl hy26 (fun r' e st hq=>by rw [hy261 r' e] at hq; exact hq) (fun u26 hu=>?_)
 replace h:=hy262 u26 hu
 refine c0 7 [71] [B ((decide (u20.1 > u26)))] 50 (by kernel_rfl) ?_
 refine sc h rfl rfl (fun h=>?_) (fun h=>?_)
 · refine ad 1 rfl ?_
   refine s_draw [0,0,0,0,0,0,48,112,0,0,768,1792,4083,8179,16383,32767] rfl (by decide +kernel) ?_
   refine dp [] [] (.hs 1 0 [] 4 0 (((setI (setI data_9 a_10 e6) pivot_12 e7)).map enc_Event).length) rfl (e_move rfl) rfl (rfl) (by decide) ?_
   refine dp [] [] (I (u26)) rfl (e_move rfl) rfl (rfl) (by decide) ?_
   refine dp [] [] (.hs 1 0 [] 4 0 (((setI (setI data_9 a_10 e6) pivot_12 e7)).map enc_Event).length) rfl (e_move rfl) rfl (rfl) (by decide) ?_
   refine dp [] [] (I (a_10)) rfl (e_move rfl) rfl (rfl) (by decide) ?_
   refine dp [] [] (.hs 1 0 [] 4 0 (((setI (setI data_9 a_10 e6) pivot_12 e7)).map enc_Event).length) rfl (e_move rfl) rfl (rfl) (by decide) ?_
   refine dp [] [] (I (a_10)) rfl (e_move rfl) rfl (rfl) (by decide) ?_
   obtain ⟨e27,he27,h⟩:=bS h
   refine dp [1] [] (.hp 1 0 [] 4 (0 + Int.toNat (a_10)) 0) rfl (e_indexAddr rfl rfl rfl (ix_hsM (f:=enc_Event) (xs:=(setI (setI data_9 a_10 e6) pivot_12 e7)) rfl rfl rfl he27)) rfl (rfl) (by decide) ?_
   refine dp [1] [] (enc_Event e27) rfl (e_ld rfl (ld_at (path:=[]) rfl rfl rfl (ra_n) (get_map (f:=enc_Event) (xs:=(setI (setI data_9 a_10 e6) pivot_12 e7)) he27) rfl rfl rfl)) rfl (rfl) (by decide) ?_
   refine dp [] [] (.hs 1 0 [] 4 0 (((setI (setI data_9 a_10 e6) pivot_12 e7)).map enc_Event).length) rfl (e_move rfl) rfl (rfl) (by decide) ?_
   refine dp [] [] (I (u26)) rfl (e_move rfl) rfl (rfl) (by decide) ?_
   obtain ⟨e28,he28,h⟩:=bS h
   refine dp [1] [] (.hp 1 0 [] 4 (0 + Int.toNat (u26)) 0) rfl (e_indexAddr rfl rfl rfl (ix_hsM (f:=enc_Event) (xs:=(setI (setI data_9 a_10 e6) pivot_12 e7)) rfl rfl rfl he28)) rfl (rfl) (by decide) ?_
   refine dp [1] [] (enc_Event e28) rfl (e_ld rfl (ld_at (path:=[]) rfl rfl rfl (ra_n) (get_map (f:=enc_Event) (xs:=(setI (setI data_9 a_10 e6) pivot_12 e7)) he28) rfl rfl rfl)) rfl (rfl) (by decide) ?_
   obtain ⟨e29,he29,h⟩:=bS h
   refine dp [1] [] (.hp 1 0 [] 4 (0 + Int.toNat (u26)) 0) rfl (e_indexAddr rfl rfl rfl (ix_hsM (f:=enc_Event) (xs:=(setI (setI data_9 a_10 e6) pivot_12 e7)) rfl rfl rfl he29)) rfl (rfl) (by decide) ?_
   obtain ⟨w30,hw30⟩ : ∃ w,getI (setI (setI (setI data_9 a_10 e6) pivot_12 e7) u26 e27) a_10=some w:=get_exI he27
   obtain ⟨w31,hw31⟩ : ∃ w,getI (setI (setI (setI data_9 a_10 e6) pivot_12 e7) u26 e27) u26=some w:=get_exI he28
   refine dp0 [1] [1] rfl (e_st rfl rfl (st_at (path:=[]) (pl:=true) (e':=enc_Event e27) (es2':=((setI (setI (setI data_9 a_10 e6) pivot_12 e7) u26 e27)).map enc_Event) rfl (absorb_plain rfl) rfl rfl rfl (ra_n) (get_map (f:=enc_Event) (xs:=(setI (setI data_9 a_10 e6) pivot_12 e7)) he29) rfl rfl rfl (set_map (f:=enc_Event) (xs:=(setI (setI data_9 a_10 e6) pivot_12 e7)) (y:=e27)) (sr_n) 0 rfl)) rfl (rfl) (by decide) ?_
   try rw [← len_setM (f:=enc_Event) (xs:=(setI (setI data_9 a_10 e6) pivot_12 e7)) (i:=u26) (z:=e27)]
   obtain ⟨e32,he32,h⟩:=bS h
   refine dp [1] [] (.hp 1 0 [] 4 (0 + Int.toNat (a_10)) 0) rfl (e_indexAddr rfl rfl rfl (ix_hsM (f:=enc_Event) (xs:=(setI (setI (setI data_9 a_10 e6) pivot_12 e7) u26 e27)) rfl rfl rfl he32)) rfl (rfl) (by decide) ?_
   obtain ⟨w33,hw33⟩ : ∃ w,getI (setI (setI (setI (setI data_9 a_10 e6) pivot_12 e7) u26 e27) a_10 e28) a_10=some w:=get_exI hw30
   obtain ⟨w34,hw34⟩ : ∃ w,getI (setI (setI (setI (setI data_9 a_10 e6) pivot_12 e7) u26 e27) a_10 e28) u26=some w:=get_exI hw31
   obtain ⟨w35,hw35⟩ : ∃ w,getI (setI (setI (setI (setI data_9 a_10 e6) pivot_12 e7) u26 e27) a_10 e28) u26=some w:=get_exI (get_set he29)
   refine dp0 [1] [1] rfl (e_st rfl rfl (st_at (path:=[]) (pl:=true) (e':=enc_Event e28) (es2':=((setI (setI (setI (setI data_9 a_10 e6) pivot_12 e7) u26 e27) a_10 e28)).map enc_Event) rfl (absorb_plain rfl) rfl rfl rfl (ra_n) (get_map (f:=enc_Event) (xs:=(setI (setI (setI data_9 a_10 e6) pivot_12 e7) u26 e27)) he32) rfl rfl rfl (set_map (f:=enc_Event) (xs:=(setI (setI (setI data_9 a_10 e6) pivot_12 e7) u26 e27)) (y:=e28)) (sr_n) 0 rfl)) rfl (rfl) (by decide) ?_
   try rw [← len_setM (f:=enc_Event) (xs:=(setI (setI (setI data_9 a_10 e6) pivot_12 e7) u26 e27)) (i:=a_10) (z:=e28)]
   refine de 306 rfl rfl ?_
   refine c0 6 [10,11] [I (u26),B (true)] 354 (by kernel_rfl) ?_
   obtain ⟨g36,h⟩:=gG h
   obtain rfl:=Option.some.inj h
   exact s_ret rfl ⟨_,fin (vs:=[I (u26),B (true)]) rfl (absE (absorb_plain rfl) (absE (absorb_plain rfl) (absEN))) rfl (ou_1 rfl (oc_hsG (f:=enc_Event) (xs:=(setI (setI (setI (setI data_9 a_10 e6) pivot_12 e7) u26 e27) a_10 e28)) (by simpa using g36) rfl) (ou_f (ou_f (ou_f (ou_f (ou_n)))))),kl_c (kl_n)⟩
 · refine ad 1 rfl ?_
   refine ad 1 rfl ?_
   refine s_draw [0,0,0,0,0,0,48,112,0,0,768,1792,4083,8179,16383,32767] rfl (by decide +kernel) ?_
   refine dp [] [] (.hs 1 0 [] 4 0 (((setI (setI data_9 a_10 e6) pivot_12 e7)).map enc_Event).length) rfl (e_move rfl) rfl (rfl) (by decide) ?_
   refine dp [] [] (I (u20.1)) rfl (e_move rfl) rfl (rfl) (by decide) ?_
   refine dp [] [] (.hs 1 0 [] 4 0 (((setI (setI data_9 a_10 e6) pivot_12 e7)).map enc_Event).length) rfl (e_move rfl) rfl (rfl) (by decide) ?_
   refine dp [] [] (I (u26)) rfl (e_move rfl) rfl (rfl) (by decide) ?_
   refine dp [] [] (.hs 1 0 [] 4 0 (((setI (setI data_9 a_10 e6) pivot_12 e7)).map enc_Event).length) rfl (e_move rfl) rfl (rfl) (by decide) ?_
   refine dp [] [] (I (u26)) rfl (e_move rfl) rfl (rfl) (by decide) ?_
   obtain ⟨e37,he37,h⟩:=bS h
   refine dp [1] [] (.hp 1 0 [] 4 (0 + Int.toNat (u26)) 0) rfl (e_indexAddr rfl rfl rfl (ix_hsM (f:=enc_Event) (xs:=(setI (setI data_9 a_10 e6) pivot_12 e7)) rfl rfl rfl he37)) rfl (rfl) (by decide) ?_
   refine dp [1] [] (enc_Event e37) rfl (e_ld rfl (ld_at (path:=[]) rfl rfl rfl (ra_n) (get_map (f:=enc_Event) (xs:=(setI (setI data_9 a_10 e6) pivot_12 e7)) he37) rfl rfl rfl)) rfl (rfl) (by decide) ?_
   refine dp [] [] (.hs 1 0 [] 4 0 (((setI (setI data_9 a_10 e6) pivot_12 e7)).map enc_Event).length) rfl (e_move rfl) rfl (rfl) (by decide) ?_
   refine dp [] [] (I (u20.1)) rfl (e_move rfl) rfl (rfl) (by decide) ?_
   obtain ⟨e38,he38,h⟩:=bS h
   refine dp [1] [] (.hp 1 0 [] 4 (0 + Int.toNat (u20.1)) 0) rfl (e_indexAddr rfl rfl rfl (ix_hsM (f:=enc_Event) (xs:=(setI (setI data_9 a_10 e6) pivot_12 e7)) rfl rfl rfl he38)) rfl (rfl) (by decide) ?_
   refine dp [1] [] (enc_Event e38) rfl (e_ld rfl (ld_at (path:=[]) rfl rfl rfl (ra_n) (get_map (f:=enc_Event) (xs:=(setI (setI data_9 a_10 e6) pivot_12 e7)) he38) rfl rfl rfl)) rfl (rfl) (by decide) ?_
   obtain ⟨e39,he39,h⟩:=bS h
   refine dp [1] [] (.hp 1 0 [] 4 (0 + Int.toNat (u20.1)) 0) rfl (e_indexAddr rfl rfl rfl (ix_hsM (f:=enc_Event) (xs:=(setI (setI data_9 a_10 e6) pivot_12 e7)) rfl rfl rfl he39)) rfl (rfl) (by decide) ?_
   obtain ⟨w40,hw40⟩ : ∃ w,getI (setI (setI (setI data_9 a_10 e6) pivot_12 e7) u20.1 e37) u26=some w:=get_exI he37
   obtain ⟨w41,hw41⟩ : ∃ w,getI (setI (setI (setI data_9 a_10 e6) pivot_12 e7) u20.1 e37) u20.1=some w:=get_exI he38
   refine dp0 [1] [1] rfl (e_st rfl rfl (st_at (path:=[]) (pl:=true) (e':=enc_Event e37) (es2':=((setI (setI (setI data_9 a_10 e6) pivot_12 e7) u20.1 e37)).map enc_Event) rfl (absorb_plain rfl) rfl rfl rfl (ra_n) (get_map (f:=enc_Event) (xs:=(setI (setI data_9 a_10 e6) pivot_12 e7)) he39) rfl rfl rfl (set_map (f:=enc_Event) (xs:=(setI (setI data_9 a_10 e6) pivot_12 e7)) (y:=e37)) (sr_n) 0 rfl)) rfl (rfl) (by decide) ?_
   try rw [← len_setM (f:=enc_Event) (xs:=(setI (setI data_9 a_10 e6) pivot_12 e7)) (i:=u20.1) (z:=e37)]
   obtain ⟨e42,he42,h⟩:=bS h
   refine dp [1] [] (.hp 1 0 [] 4 (0 + Int.toNat (u26)) 0) rfl (e_indexAddr rfl rfl rfl (ix_hsM (f:=enc_Event) (xs:=(setI (setI (setI data_9 a_10 e6) pivot_12 e7) u20.1 e37)) rfl rfl rfl he42)) rfl (rfl) (by decide) ?_
   obtain ⟨w43,hw43⟩ : ∃ w,getI (setI (setI (setI (setI data_9 a_10 e6) pivot_12 e7) u20.1 e37) u26 e38) u26=some w:=get_exI hw40
   obtain ⟨w44,hw44⟩ : ∃ w,getI (setI (setI (setI (setI data_9 a_10 e6) pivot_12 e7) u20.1 e37) u26 e38) u20.1=some w:=get_exI hw41
   obtain ⟨w45,hw45⟩ : ∃ w,getI (setI (setI (setI (setI data_9 a_10 e6) pivot_12 e7) u20.1 e37) u26 e38) u20.1=some w:=get_exI (get_set he39)
   refine dp0 [1] [1] rfl (e_st rfl rfl (st_at (path:=[]) (pl:=true) (e':=enc_Event e38) (es2':=((setI (setI (setI (setI data_9 a_10 e6) pivot_12 e7) u20.1 e37) u26 e38)).map enc_Event) rfl (absorb_plain rfl) rfl rfl rfl (ra_n) (get_map (f:=enc_Event) (xs:=(setI (setI (setI data_9 a_10 e6) pivot_12 e7) u20.1 e37)) he42) rfl rfl rfl (set_map (f:=enc_Event) (xs:=(setI (setI (setI data_9 a_10 e6) pivot_12 e7) u20.1 e37)) (y:=e38)) (sr_n) 0 rfl)) rfl (rfl) (by decide) ?_
   try rw [← len_setM (f:=enc_Event) (xs:=(setI (setI (setI data_9 a_10 e6) pivot_12 e7) u20.1 e37)) (i:=u26) (z:=e38)]
   refine de 306 rfl rfl ?_
   refine c0 14 [12,13] [I ((w64 (u20.1 + 1))),I ((w64 (u26 - 1)))] 402 (by kernel_rfl) ?_
   obtain ⟨y68,hy68,hy681,hy682⟩:=bJ h
   refine s_loop rfl ?_
   refine run_forget [0,1,4,12,13] [1] [⟨0,4,((setI (setI (setI (setI data_9 a_10 e6) pivot_12 e7) u20.1 e37) u26 e38)).map enc_Event⟩] rfl rfl rfl rfl ?_
   refine Ffbs_lc_run data_9 a_10 b_11 pivot_12 cmp_13 rfl hy68 (fun r' e st hq=>by rw [hy681 r' e] at hq; exact hq) (fun u68 hu=>?_)
   replace h:=hy682 u68 hu
   refine ad 1 rfl ?_
   refine s_draw [0,0,0,0,0,0,48,112,0,0,768,1792,4083,8179,16383,32767] rfl (by decide +kernel) ?_
   refine dp [] [] (.hs 1 0 [] 4 0 ((u68.2).map enc_Event).length) rfl (e_move rfl) rfl (rfl) (by decide) ?_
   refine dp [] [] (I (u68.1)) rfl (e_move rfl) rfl (rfl) (by decide) ?_
   refine dp [] [] (.hs 1 0 [] 4 0 ((u68.2).map enc_Event).length) rfl (e_move rfl) rfl (rfl) (by decide) ?_
   refine dp [] [] (I (a_10)) rfl (e_move rfl) rfl (rfl) (by decide) ?_
   refine dp [] [] (.hs 1 0 [] 4 0 ((u68.2).map enc_Event).length) rfl (e_move rfl) rfl (rfl) (by decide) ?_
   refine dp [] [] (I (a_10)) rfl (e_move rfl) rfl (rfl) (by decide) ?_
   obtain ⟨e69,he69,h⟩:=bS h
   refine dp [1] [] (.hp 1 0 [] 4 (0 + Int.toNat (a_10)) 0) rfl (e_indexAddr rfl rfl rfl (ix_hsM (f:=enc_Event) (xs:=u68.2) rfl rfl rfl he69)) rfl (rfl) (by decide) ?_
   refine dp [1] [] (enc_Event e69) rfl (e_ld rfl (ld_at (path:=[]) rfl rfl rfl (ra_n) (get_map (f:=enc_Event) (xs:=u68.2) he69) rfl rfl rfl)) rfl (rfl) (by decide) ?_
   refine dp [] [] (.hs 1 0 [] 4 0 ((u68.2).map enc_Event).length) rfl (e_move rfl) rfl (rfl) (by decide) ?_
   refine dp [] [] (I (u68.1)) rfl (e_move rfl) rfl (rfl) (by decide) ?_
   obtain ⟨e70,he70,h⟩:=bS h
   refine dp [1] [] (.hp 1 0 [] 4 (0 + Int.toNat (u68.1)) 0) rfl (e_indexAddr rfl rfl rfl (ix_hsM (f:=enc_Event) (xs:=u68.2) rfl rfl rfl he70)) rfl (rfl) (by decide) ?_
   refine dp [1] [] (enc_Event e70) rfl (e_ld rfl (ld_at (path:=[]) rfl rfl rfl (ra_n) (get_map (f:=enc_Event) (xs:=u68.2) he70) rfl rfl rfl)) rfl (rfl) (by decide) ?_
   obtain ⟨e71,he71,h⟩:=bS h
   refine dp [1] [] (.hp 1 0 [] 4 (0 + Int.toNat (u68.1)) 0) rfl (e_indexAddr rfl rfl rfl (ix_hsM (f:=enc_Event) (xs:=u68.2) rfl rfl rfl he71)) rfl (rfl) (by decide) ?_
   obtain ⟨w72,hw72⟩ : ∃ w,getI (setI u68.2 u68.1 e69) a_10=some w:=get_exI he69
   obtain ⟨w73,hw73⟩ : ∃ w,getI (setI u68.2 u68.1 e69) u68.1=some w:=get_exI he70
   refine dp0 [1] [1] rfl (e_st rfl rfl (st_at (path:=[]) (pl:=true) (e':=enc_Event e69) (es2':=((setI u68.2 u68.1 e69)).map enc_Event) rfl (absorb_plain rfl) rfl rfl rfl (ra_n) (get_map (f:=enc_Event) (xs:=u68.2) he71) rfl rfl rfl (set_map (f:=enc_Event) (xs:=u68.2) (y:=e69)) (sr_n) 0 rfl)) rfl (rfl) (by decide) ?_
   try rw [← len_setM (f:=enc_Event) (xs:=u68.2) (i:=u68.1) (z:=e69)]
   obtain ⟨e74,he74,h⟩:=bS h
   refine dp [1] [] (.hp 1 0 [] 4 (0 + Int.toNat (a_10)) 0) rfl (e_indexAddr rfl rfl rfl (ix_hsM (f:=enc_Event) (xs:=(setI u68.2 u68.1 e69)) rfl rfl rfl he74)) rfl (rfl) (by decide) ?_
   obtain ⟨w75,hw75⟩ : ∃ w,getI (setI (setI u68.2 u68.1 e69) a_10 e70) a_10=some w:=get_exI hw72
   obtain ⟨w76,hw76⟩ : ∃ w,getI (setI (setI u68.2 u68.1 e69) a_10 e70) u68.1=some w:=get_exI hw73
   obtain ⟨w77,hw77⟩ : ∃ w,getI (setI (setI u68.2 u68.1 e69) a_10 e70) u68.1=some w:=get_exI (get_set he71)
   refine dp0 [1] [1] rfl (e_st rfl rfl (st_at (path:=[]) (pl:=true) (e':=enc_Event e70) (es2':=((setI (setI u68.2 u68.1 e69) a_10 e70)).map enc_Event) rfl (absorb_plain rfl) rfl rfl rfl (ra_n) (get_map (f:=enc_Event) (xs:=(setI u68.2 u68.1 e69)) he74) rfl rfl rfl (set_map (f:=enc_Event) (xs:=(setI u68.2 u68.1 e69)) (y:=e70)) (sr_n) 0 rfl)) rfl (rfl) (by decide) ?_
   try rw [← len_setM (f:=enc_Event) (xs:=(setI u68.2 u68.1 e69)) (i:=a_10) (z:=e70)]
   refine de 258 rfl rfl ?_
   refine c0 6 [10,11] [I (u68.1),B (false)] 306 (by kernel_rfl) ?_
   obtain ⟨g78,h⟩:=gG h
   obtain rfl:=Option.some.inj h
   exact s_ret rfl ⟨_,fin (vs:=[I (u68.1),B (false)]) rfl (absE (absorb_plain rfl) (absE (absorb_plain rfl) (absEN))) rfl (ou_1 rfl (oc_hsG (f:=enc_Event) (xs:=(setI (setI u68.2 u68.1 e69) a_10 e70)) (by simpa using g78) rfl) (ou_f (ou_f (ou_f (ou_f (ou_n)))))),kl_c (kl_n)⟩
theorem Ffbs_good {G : Go.Ln.Ground} : Good Tryd.prog G 122 Ffbs_ent:=good_T (fnOf_good (gl_c Fff_good (gl_n))) agree_mk (Checked.mixed Tryd.checked) Tryd.func122 (n:=5) (m:=1) ⟨rfl,rfl,by decide⟩ (fun _=>⟨rfl,rfl⟩) (fun a r h=>Ffbs_run a.1 a.2.1 a.2.2.1 a.2.2.2.1 a.2.2.2.2 r h)
def Ffbu_A : ((List Event) × Int × Int × Int × Unit)→List V:=cA (usE 4 enc_Event) (cA I (cA I (cA I (oA (fun x : Unit=>(.fn 52 [] : V))))))
def Ffbu_R (r : (List Event)) : V × List V:=(.tup [],[.usl 4 ((r).map enc_Event)])
noncomputable def Ffbu_entS (slf_Ffbu : ((List Event) × Int × Int × Int × Unit)→Option ((List Event))) : Ent:=entT [true,false,false,false,false] Ffbu_A Ffbu_R slf_Ffbu
theorem Ffbu_FS (slf_Ffbu : ((List Event) × Int × Int × Int × Unit)→Option ((List Event))) {x} {r} (h : slf_Ffbu x=some r) : (Ffbu_entS slf_Ffbu).F (Ffbu_A x)=some (Ffbu_R r):=entT_F (cA_inj (usl_inj enc_Event_inj) (cA_inj I_inj (cA_inj I_inj (cA_inj I_inj (oA_inj (fn_inj0 )))))) h
noncomputable def Ffbu_ent : Ent:=Ffbu_entS (fixO Ffbu_G)
theorem Ffbu_F {data_8 : List Event} {a_9 : Int} {b_10 : Int} {limit_11 : Int} {cmp_12 : Unit} {r} (h : Ffbu data_8 a_9 b_10 limit_11 cmp_12=some r) : Ffbu_ent.F (Ffbu_A (data_8,a_9,b_10,limit_11,cmp_12))=some (Ffbu_R r):=Ffbu_FS (fixO Ffbu_G) h
noncomputable def Ffbu_c : Code:=bodyOf Tryd.f94
noncomputable def Ffbu_E (slf_Ffbu : ((List Event) × Int × Int × Int × Unit)→Option ((List Event))) : Env:=mkE Tryd.prog [(115,Ffbm_ent),(116,Ffbl_ent),(118,Ffbk_ent),(121,Ffbt_ent),(122,Ffbs_ent),(94,(Ffbu_entS slf_Ffbu)),(52,Fff_ent),(120,Ffbr_ent),(119,Ffbv_ent),(117,Ffbj_ent)]
def Ffbu_Q (slf_Ffbu : ((List Event) × Int × Int × Int × Unit)→Option ((List Event))) (x : (List Event) × Int × Int × Int × Unit) (r : (List Event)) : St→Prop:=QF (Ffbu_E slf_Ffbu) Tryd.f94 [true,false,false,false,false] (Ffbu_A x) (Ffbu_R r)
theorem Ffbu_la_run (slf_Ffbu : ((List Event) × Int × Int × Int × Unit)→Option ((List Event))) (data_8 : List Event) (a_9 : Int) (b_10 : Int) (limit_11 : Int) (cmp_12 : Unit)  {Q : St→Prop} {K : List It} (hK : noD K=true) {x6 : Int × Int × Int × Bool × Bool × (List Event)} {y : ((List Event)) ⊕ Unit} (h : Ffbu_la slf_Ffbu data_8 a_9 b_10 limit_11 cmp_12 x6=some y) : (∀ r',y=.inl r'→∀ st,Ffbu_Q slf_Ffbu (data_8,a_9,b_10,limit_11,cmp_12) r' st→Q st)→(∀ u : Unit,y=.inr u→Run (Ffbu_E slf_Ffbu) 1 Q K ⟨mkTm .dead 148 [],mkS (rtL [] 1),1⟩)→Run (Ffbu_E slf_Ffbu) 1 Q (.code (cL (cL (cR (cR Ffbu_c)))) :: .lp (cL (cL (cR (cR Ffbu_c)))) :: .blk 0 :: K) ⟨mkTm .dead 148 [(0,.hs 1 0 [] 4 0 ((x6.2.2.2.2.2).map enc_Event).length),(1,I (x6.1)),(2,I (x6.2.1)),(3,I (x6.2.2.1)),(4,.fn 52 []),(10,B (x6.2.2.2.1)),(11,B (x6.2.2.2.2.1))],mkS (rtL [⟨0,4,(x6.2.2.2.2.2).map enc_Event⟩] 1),2⟩:=by
 refine fix_ind (P:=fun (x6 : Int × Int × Int × Bool × Bool × (List Event)) (y : ((List Event)) ⊕ Unit)=>(∀ r',y=.inl r'→∀ st,Ffbu_Q slf_Ffbu (data_8,a_9,b_10,limit_11,cmp_12) r' st→Q st)→(∀ u : Unit,y=.inr u→Run (Ffbu_E slf_Ffbu) 1 Q K ⟨mkTm .dead 148 [],mkS (rtL [] 1),1⟩)→Run (Ffbu_E slf_Ffbu) 1 Q (.code (cL (cL (cR (cR Ffbu_c)))) :: .lp (cL (cL (cR (cR Ffbu_c)))) :: .blk 0 :: K) ⟨mkTm .dead 148 [(0,.hs 1 0 [] 4 0 ((x6.2.2.2.2.2).map enc_Event).length),(1,I (x6.1)),(2,I (x6.2.1)),(3,I (x6.2.2.1)),(4,.fn 52 []),(10,B (x6.2.2.2.1)),(11,B (x6.2.2.2.2.1))],mkS (rtL [⟨0,4,(x6.2.2.2.2.2).map enc_Event⟩] 1),2⟩) (Ffbu_la_fin slf_Ffbu data_8 a_9 b_10 limit_11 cmp_12) ?_ h
 clear h y x6
 intro self ih x6 y h hr hn
 unfold Ffbu_la_F at h
 refine c0 14 [12,25] [I ((w64 (x6.2.1 - x6.1))),B ((decide ((w64 (x6.2.1 - x6.1)) ≤ 12)))] 98 (by kernel_rfl) ?_
 refine sc h rfl rfl (fun h=>?_) (fun h=>?_)
 · refine c0 6 [26,27,28,29] [.hs 1 0 [] 4 0 ((x6.2.2.2.2.2).map enc_Event).length,I (x6.1),I (x6.2.1),.fn 52 []] 162 (by kernel_rfl) ?_
   obtain ⟨r7,hr7,h⟩:=bS h
   obtain ⟨g8,h⟩:=gG h
   refine o 178 (.tup []) rfl rfl (e_callV rfl rfl (call_P rfl rfl rfl (avO (hd1 rfl (hd_hs (path:=[]) rfl rfl (ra_n) rfl)) (avS (shP rfl) (avS (shP rfl) (avS (shP rfl) (avN))))) (Ffbm_F hr7) (.inr rfl) (bl_c rfl rfl rfl rfl (bl_n)) rfl rfl rfl)) ?_
   try rw [len_eqM (f:=enc_Event) (xs:=x6.2.2.2.2.2) (ys:=r7) g8]
   refine ad 1 rfl ?_
   obtain ⟨g9,h⟩:=gG h
   exact s_ret rfl (hr _ (Option.some.inj h).symm _ ⟨_,fin (vs:=[]) rfl (absEN) rfl (ou_1 rfl (oc_hsG (f:=enc_Event) (xs:=r7) (by simpa using g9) rfl) (ou_f (ou_f (ou_f (ou_f (ou_n)))))),kl_c (kl_n)⟩)
 · refine ad 1 rfl ?_
   refine c0 6 [32] [B ((x6.2.2.1 == 0))] 130 (by kernel_rfl) ?_
   refine sc h rfl rfl (fun h=>?_) (fun h=>?_)
   · refine c0 6 [33,34,35,36] [.hs 1 0 [] 4 0 ((x6.2.2.2.2.2).map enc_Event).length,I (x6.1),I (x6.2.1),.fn 52 []] 194 (by kernel_rfl) ?_
     obtain ⟨r10,hr10,h⟩:=bS h
     obtain ⟨g11,h⟩:=gG h
     refine o 210 (.tup []) rfl rfl (e_callV rfl rfl (call_P rfl rfl rfl (avO (hd1 rfl (hd_hs (path:=[]) rfl rfl (ra_n) rfl)) (avS (shP rfl) (avS (shP rfl) (avS (shP rfl) (avN))))) (Ffbl_F hr10) (.inr rfl) (bl_c rfl rfl rfl rfl (bl_n)) rfl rfl rfl)) ?_
     try rw [len_eqM (f:=enc_Event) (xs:=x6.2.2.2.2.2) (ys:=r10) g11]
     refine ad 1 rfl ?_
     obtain ⟨g12,h⟩:=gG h
     exact s_ret rfl (hr _ (Option.some.inj h).symm _ ⟨_,fin (vs:=[]) rfl (absEN) rfl (ou_1 rfl (oc_hsG (f:=enc_Event) (xs:=r10) (by simpa using g12) rfl) (ou_f (ou_f (ou_f (ou_f (ou_n)))))),kl_c (kl_n)⟩)
   · refine ad 1 rfl ?_
     refine c0 6 [39] [B ((!x6.2.2.2.1))] 162 (by kernel_rfl) ?_
     obtain ⟨y13,hy13,hy131,hy132⟩:=bL h
     have j13 : ∀ u13,y13=.inr u13→Run (Ffbu_E slf_Ffbu) 1 Q (.code (cR (cR (cR (cR (cL (cL (cL (cR (cR Ffbu_c))))))))) :: .blk 1 :: .lp (cL (cL (cR (cR Ffbu_c)))) :: .blk 0 :: K) ⟨mkTm .dead 148 [(0,.hs 1 0 [] 4 0 ((u13.2).map enc_Event).length),(1,I (x6.1)),(2,I (x6.2.1)),(3,I (u13.1)),(4,.fn 52 []),(10,B (x6.2.2.2.1)),(11,B (x6.2.2.2.2.1)),(12,I ((w64 (x6.2.1 - x6.1))))],mkS (rtL [⟨0,4,(u13.2).map enc_Event⟩] 1),2⟩:=by
       intro u13 hu
       replace h:=hy132 u13 hu
       refine c0 6 [48,49,50,51] [.hs 1 0 [] 4 0 ((u13.2).map enc_Event).length,I (x6.1),I (x6.2.1),.fn 52 []] 66 (by kernel_rfl) ?_
       obtain ⟨r14,hr14,h⟩:=bS h
       refine o 82 (.tup [I (r14.1),I (r14.2)]) rfl rfl (e_callV rfl rfl (call_P rfl rfl rfl (avS (sh1 rfl rfl (sh_hsM (f:=enc_Event) (g:=enc_Event) (xs:=u13.2) rfl rfl (imms_of enc_Event_imm))) (avS (shP rfl) (avS (shP rfl) (avS (shP rfl) (avN))))) (Ffbk_F hr14) (.inl (rfl)) (bl_n) rfl rfl rfl)) ?_
       refine c0 12 [13,14,56] [I (r14.1),I (r14.2),B ((r14.2 == 2))] 194 (by kernel_rfl) ?_
       obtain ⟨y15,hy15,hy151,hy152⟩:=bL h
       have j15 : ∀ u15,y15=.inr u15→Run (Ffbu_E slf_Ffbu) 1 Q (.code (cR (cR (cR (cR (cR (cR (cL (cL (cL (cR (cR Ffbu_c))))))))))) :: .blk 1 :: .lp (cL (cL (cR (cR Ffbu_c)))) :: .blk 0 :: K) ⟨mkTm .dead 148 [(0,.hs 1 0 [] 4 0 ((u15.2.2).map enc_Event).length),(1,I (x6.1)),(2,I (x6.2.1)),(3,I (u13.1)),(4,.fn 52 []),(10,B (x6.2.2.2.1)),(11,B (x6.2.2.2.2.1)),(12,I ((w64 (x6.2.1 - x6.1)))),(13,I (u15.1)),(14,I (u15.2.1))],mkS (rtL [⟨0,4,(u15.2.2).map enc_Event⟩] 1),2⟩:=by
         intro u15 hu
         replace h:=hy152 u15 hu
         refine c0 5 [69] [B (x6.2.2.2.1)] 34 (by kernel_rfl) ?_
         obtain ⟨u16,hu16,h⟩:=lJ h
         have j16 : Run (Ffbu_E slf_Ffbu) 1 Q (.code (cR (cL (cR (cR (cR (cR (cR (cR (cL (cL (cL (cR (cR Ffbu_c))))))))))))) :: .code (cR (cR (cR (cR (cR (cR (cR (cL (cL (cL (cR (cR Ffbu_c)))))))))))) :: .blk 1 :: .lp (cL (cL (cR (cR Ffbu_c)))) :: .blk 0 :: K) ⟨mkTm .dead 148 [(0,.hs 1 0 [] 4 0 ((u15.2.2).map enc_Event).length),(1,I (x6.1)),(2,I (x6.2.1)),(3,I (u13.1)),(4,.fn 52 []),(10,B (x6.2.2.2.1)),(11,B (x6.2.2.2.2.1)),(12,I ((w64 (x6.2.1 - x6.1)))),(13,I (u15.1)),(75,B (u16))],mkS (rtL [⟨0,4,(u15.2.2).map enc_Event⟩] 1),2⟩:=by
           obtain ⟨y17,hy17,hy171,hy172⟩:=bL h
           have j17 : ∀ u17,y17=.inr u17→Run (Ffbu_E slf_Ffbu) 1 Q (.code (cR (cR (cR (cR (cR (cR (cR (cL (cL (cL (cR (cR Ffbu_c)))))))))))) :: .blk 1 :: .lp (cL (cL (cR (cR Ffbu_c)))) :: .blk 0 :: K) ⟨mkTm .dead 148 [(0,.hs 1 0 [] 4 0 ((u17).map enc_Event).length),(1,I (x6.1)),(2,I (x6.2.1)),(3,I (u13.1)),(4,.fn 52 []),(10,B (x6.2.2.2.1)),(11,B (x6.2.2.2.2.1)),(12,I ((w64 (x6.2.1 - x6.1)))),(13,I (u15.1))],mkS (rtL [⟨0,4,(u17).map enc_Event⟩] 1),2⟩:=by
             intro u17 hu
             replace h:=hy172 u17 hu
             refine ad 2 rfl ?_
             refine s_draw [0,1,3,7,7,7,39,119,247,7,7,1543,3591,8191,16383,32767,65535] rfl (by decide +kernel) ?_
             refine dp [] [] (I (x6.1)) rfl (e_move rfl) rfl (rfl) (by decide) ?_
             refine dp [] [] (B ((decide (x6.1 > 0)))) rfl (e_bin rfl rfl rfl) rfl (rfl) (by decide) ?_
             refine dp [] [] (B ((decide (x6.1 > 0)))) rfl (e_move rfl) rfl (rfl) (by decide) ?_
             obtain ⟨y18,hy18,hy181,hy182⟩:=bL h
             have j18 : ∀ u18,y18=.inr u18→Run (Ffbu_E slf_Ffbu) 1 Q (.code (cR (cL (cR (cR (cR (cR (cR (cR (cR (cL (cL (cL (cR (cR Ffbu_c)))))))))))))) :: .code (cR (cR (cR (cR (cR (cR (cR (cR (cL (cL (cL (cR (cR Ffbu_c))))))))))))) :: .blk 1 :: .lp (cL (cL (cR (cR Ffbu_c)))) :: .blk 0 :: K) ⟨mkTm .dead 148 [(0,.hs 1 0 [] 4 0 ((u17).map enc_Event).length),(1,I (x6.1)),(2,I (x6.2.1)),(3,I (u13.1)),(4,.fn 52 []),(10,B (x6.2.2.2.1)),(11,B (x6.2.2.2.2.1)),(12,I ((w64 (x6.2.1 - x6.1)))),(13,I (u15.1)),(97,B (u18))],mkS (rtL [⟨0,4,(u17).map enc_Event⟩] 1),2⟩:=by
               intro u18 hu
               replace h:=hy182 u18 hu
               refine sc h rfl rfl (fun h=>?_) (fun h=>?_)
               · refine c0 7 [98,99,100,101,102] [.hs 1 0 [] 4 0 ((u17).map enc_Event).length,I (x6.1),I (x6.2.1),I (u15.1),.fn 52 []] 82 (by kernel_rfl) ?_
                 obtain ⟨r19,hr19,h⟩:=bS h
                 obtain ⟨g20,h⟩:=gG h
                 refine o 98 (I (r19.1)) rfl rfl (e_callV rfl rfl (call_P rfl rfl rfl (avO (hd1 rfl (hd_hs (path:=[]) rfl rfl (ra_n) rfl)) (avS (shP rfl) (avS (shP rfl) (avS (shP rfl) (avS (shP rfl) (avN)))))) (Ffbt_F hr19) (.inr rfl) (bl_c rfl rfl rfl rfl (bl_n)) rfl rfl rfl)) ?_
                 try rw [len_eqM (f:=enc_Event) (xs:=u17) (ys:=r19.2) g20]
                 refine c0 8 [1] [I (r19.1)] 146 (by kernel_rfl) ?_
                 refine s_lp ?_
                 refine run_forget [0,1,2,3,4,10,11] [1] [⟨1,4,(r19.2).map enc_Event⟩] rfl rfl rfl rfl ?_
                 exact ih _ _ h hr hn
               · refine ad 1 rfl ?_
                 refine c0 7 [106,107,108,109,110] [.hs 1 0 [] 4 0 ((u17).map enc_Event).length,I (x6.1),I (x6.2.1),I (u15.1),.fn 52 []] 82 (by kernel_rfl) ?_
                 obtain ⟨r21,hr21,h⟩:=bS h
                 obtain ⟨g22,h⟩:=gG h
                 refine o 98 (.tup [I (r21.1),B (r21.2.1)]) rfl rfl (e_callV rfl rfl (call_P rfl rfl rfl (avO (hd1 rfl (hd_hs (path:=[]) rfl rfl (ra_n) rfl)) (avS (shP rfl) (avS (shP rfl) (avS (shP rfl) (avS (shP rfl) (avN)))))) (Ffbs_F hr21) (.inr rfl) (bl_c rfl rfl rfl rfl (bl_n)) rfl rfl rfl)) ?_
                 try rw [len_eqM (f:=enc_Event) (xs:=u17) (ys:=r21.2.2) g22]
                 refine c0 34 [11,16,18,19,20,125] [B (r21.2.1),I (r21.1),I ((w64 (r21.1 - x6.1))),I ((w64 (x6.2.1 - r21.1))),I ((w64 ((w64 (x6.2.1 - x6.1)).tdiv 8))),B ((decide ((w64 (r21.1 - x6.1)) < (w64 (x6.2.1 - r21.1)))))] 434 (by kernel_rfl) ?_
                 obtain ⟨y23,hy23,hy231,hy232⟩:=bL h
                 have j23 : ∀ u23,y23=.inr u23→Run (Ffbu_E slf_Ffbu) 1 Q (.blk 1 :: .lp (cL (cL (cR (cR Ffbu_c)))) :: .blk 0 :: K) ⟨mkTm .dead 148 [(0,.hs 1 0 [] 4 0 ((u23.2.2.2).map enc_Event).length),(1,I (u23.1)),(2,I (u23.2.1)),(3,I (u13.1)),(4,.fn 52 []),(10,B (u23.2.2.1)),(11,B (r21.2.1))],mkS (rtL [⟨0,4,(u23.2.2.2).map enc_Event⟩] 1),2⟩:=by
                   intro u23 hu
                   replace h:=hy232 u23 hu
                   refine ad 1 rfl ?_
                   refine s_lp ?_
                   refine run_forget [0,1,2,3,4,10,11] [1] [⟨0,4,(u23.2.2.2).map enc_Event⟩] rfl rfl rfl rfl ?_
                   exact ih _ _ h hr hn
                 have r23 : ∀ r',y23=.inl r'→∀ st,Ffbu_Q slf_Ffbu (data_8,a_9,b_10,limit_11,cmp_12) r' st→Q st:=fun r' e st hq=>hr r' (hy231 r' e) st hq
                 replace h:=hy23
                 refine sc h rfl rfl (fun h=>?_) (fun h=>?_)
                 · refine c0 14 [10,129,130,131,132,133] [B ((decide ((w64 (r21.1 - x6.1)) ≥ (w64 ((w64 (x6.2.1 - x6.1)).tdiv 8))))),.hs 1 0 [] 4 0 ((r21.2.2).map enc_Event).length,I (x6.1),I (r21.1),I (u13.1),.fn 52 []] 578 (by kernel_rfl) ?_
                   obtain ⟨r24,hr24,h⟩:=bS h
                   obtain ⟨g25,h⟩:=gG h
                   refine o 594 (.tup []) rfl rfl (e_callV rfl rfl (call_P rfl rfl rfl (avO (hd1 rfl (hd_hs (path:=[]) rfl rfl (ra_n) rfl)) (avS (shP rfl) (avS (shP rfl) (avS (shP rfl) (avS (shP rfl) (avN)))))) (Ffbu_FS slf_Ffbu hr24) (.inr rfl) (bl_c rfl rfl rfl rfl (bl_n)) rfl rfl rfl)) ?_
                   try rw [len_eqM (f:=enc_Event) (xs:=r21.2.2) (ys:=r24) g25]
                   refine c0 6 [1] [I ((w64 (r21.1 + 1)))] 642 (by kernel_rfl) ?_
                   refine run_forget [0,1,2,3,4,10,11] [1] [⟨2,4,(r24).map enc_Event⟩] rfl rfl rfl rfl ?_
                   exact j23 _ (Option.some.inj h).symm
                 · refine c0 15 [10,140,142,143,144,145] [B ((decide ((w64 (x6.2.1 - r21.1)) ≥ (w64 ((w64 (x6.2.1 - x6.1)).tdiv 8))))),.hs 1 0 [] 4 0 ((r21.2.2).map enc_Event).length,I ((w64 (r21.1 + 1))),I (x6.2.1),I (u13.1),.fn 52 []] 594 (by kernel_rfl) ?_
                   obtain ⟨r26,hr26,h⟩:=bS h
                   obtain ⟨g27,h⟩:=gG h
                   refine o 610 (.tup []) rfl rfl (e_callV rfl rfl (call_P rfl rfl rfl (avO (hd1 rfl (hd_hs (path:=[]) rfl rfl (ra_n) rfl)) (avS (shP rfl) (avS (shP rfl) (avS (shP rfl) (avS (shP rfl) (avN)))))) (Ffbu_FS slf_Ffbu hr26) (.inr rfl) (bl_c rfl rfl rfl rfl (bl_n)) rfl rfl rfl)) ?_
                   try rw [len_eqM (f:=enc_Event) (xs:=r21.2.2) (ys:=r26) g27]
                   refine c0 5 [2] [I (r21.1)] 642 (by kernel_rfl) ?_
                   refine run_forget [0,1,2,3,4,10,11] [1] [⟨2,4,(r26).map enc_Event⟩] rfl rfl rfl rfl ?_
                   exact j23 _ (Option.some.inj h).symm
             have r18 : ∀ r',y18=.inl r'→∀ st,Ffbu_Q slf_Ffbu (data_8,a_9,b_10,limit_11,cmp_12) r' st→Q st:=fun r' e st hq=>hr r' (hy181 r' e) st hq
             replace h:=hy18
             refine sp 83 h rfl (fun h=>?_) (fun h=>?_)
             · refine dg [] [] (.fn 52 []) rfl rfl rfl (e_move rfl) rfl (rfl) (by decide) ?_
               refine dg [] [] (.hs 1 0 [] 4 0 ((u17).map enc_Event).length) rfl rfl rfl (e_move rfl) rfl (rfl) (by decide) ?_
               refine dg [] [] (I (x6.1)) rfl rfl rfl (e_move rfl) rfl (rfl) (by decide) ?_
               refine dg [] [] (I ((w64 (x6.1 - 1)))) rfl rfl rfl (e_bin rfl rfl rfl) rfl (rfl) (by decide) ?_
               obtain ⟨e28,he28,h⟩:=bS h
               refine dg [1] [] (.hp 1 0 [] 4 (0 + Int.toNat ((w64 (x6.1 - 1)))) 0) rfl rfl rfl (e_indexAddr rfl rfl rfl (ix_hsM (f:=enc_Event) (xs:=u17) rfl rfl rfl he28)) rfl (rfl) (by decide) ?_
               refine dg [1] [] (enc_Event e28) rfl rfl rfl (e_ld rfl (ld_at (path:=[]) rfl rfl rfl (ra_n) (get_map (f:=enc_Event) (xs:=u17) he28) rfl rfl rfl)) rfl (rfl) (by decide) ?_
               refine dg [] [] (.hs 1 0 [] 4 0 ((u17).map enc_Event).length) rfl rfl rfl (e_move rfl) rfl (rfl) (by decide) ?_
               refine dg [] [] (I (u15.1)) rfl rfl rfl (e_move rfl) rfl (rfl) (by decide) ?_
               obtain ⟨e29,he29,h⟩:=bS h
               refine dg [1] [] (.hp 1 0 [] 4 (0 + Int.toNat (u15.1)) 0) rfl rfl rfl (e_indexAddr rfl rfl rfl (ix_hsM (f:=enc_Event) (xs:=u17) rfl rfl rfl he29)) rfl (rfl) (by decide) ?_
               refine dg [1] [] (enc_Event e29) rfl rfl rfl (e_ld rfl (ld_at (path:=[]) rfl rfl rfl (ra_n) (get_map (f:=enc_Event) (xs:=u17) he29) rfl rfl rfl)) rfl (rfl) (by decide) ?_
               obtain ⟨r30,hr30,h⟩:=bS h
               refine dg [] [] (I (r30)) rfl rfl rfl (e_callV rfl rfl (call_P rfl rfl rfl (avS (shP rfl) (avS (shP rfl) (avN))) (Fff_F hr30) (.inr rfl) (bl_n) rfl rfl rfl)) rfl (w_callO rfl rfl rfl rfl (avS (shP rfl) (avS (shP rfl) (avN))) (Fff_F hr30) (.inr rfl) rfl) (by decide) ?_
               refine dg [] [] (B ((decide (r30 < 0)))) rfl rfl rfl (e_bin rfl rfl rfl) rfl (rfl) (by decide) ?_
               refine dg [] [] (B ((!(decide (r30 < 0))))) rfl rfl rfl (e_un rfl rfl) rfl (rfl) (by decide) ?_
               refine dp [] [] (B ((!(decide (r30 < 0))))) rfl (e_pickT rfl rfl) rfl (rfl) (by decide) ?_
               refine de 274 rfl rfl ?_
               refine run_forget [0,1,2,3,4,10,11,12,13,97] [1] [⟨0,4,(u17).map enc_Event⟩] rfl rfl rfl rfl ?_
               exact j18 _ (Option.some.inj h).symm
             · refine ds rfl rfl rfl (by decide) ?_
               refine ds rfl rfl rfl (by decide) ?_
               refine ds rfl rfl rfl (by decide) ?_
               refine ds rfl rfl rfl (by decide) ?_
               refine ds rfl rfl rfl (by decide) ?_
               refine ds rfl rfl rfl (by decide) ?_
               refine ds rfl rfl rfl (by decide) ?_
               refine ds rfl rfl rfl (by decide) ?_
               refine ds rfl rfl rfl (by decide) ?_
               refine ds rfl rfl rfl (by decide) ?_
               refine ds rfl rfl rfl (by decide) ?_
               refine ds rfl rfl rfl (by decide) ?_
               refine ds rfl rfl rfl (by decide) ?_
               refine dp [] [] (B (false)) rfl (e_pickF rfl rfl) rfl (rfl) (by decide) ?_
               refine de 274 rfl rfl ?_
               refine run_forget [0,1,2,3,4,10,11,12,13,97] [1] [⟨0,4,(u17).map enc_Event⟩] rfl rfl rfl rfl ?_
               exact j18 _ (Option.some.inj h).symm
           have r17 : ∀ r',y17=.inl r'→∀ st,Ffbu_Q slf_Ffbu (data_8,a_9,b_10,limit_11,cmp_12) r' st→Q st:=fun r' e st hq=>hr r' (hy171 r' e) st hq
           replace h:=hy17
           refine sc h rfl rfl (fun h=>?_) (fun h=>?_)
           · refine c0 6 [76,77,78,79] [.hs 1 0 [] 4 0 ((u15.2.2).map enc_Event).length,I (x6.1),I (x6.2.1),.fn 52 []] 66 (by kernel_rfl) ?_
             obtain ⟨r31,hr31,h⟩:=bS h
             obtain ⟨g32,h⟩:=gG h
             refine o 82 (B (r31.1)) rfl rfl (e_callV rfl rfl (call_P rfl rfl rfl (avO (hd1 rfl (hd_hs (path:=[]) rfl rfl (ra_n) rfl)) (avS (shP rfl) (avS (shP rfl) (avS (shP rfl) (avN))))) (Ffbr_F hr31) (.inr rfl) (bl_c rfl rfl rfl rfl (bl_n)) rfl rfl rfl)) ?_
             try rw [len_eqM (f:=enc_Event) (xs:=u15.2.2) (ys:=r31.2) g32]
             refine ad 1 rfl ?_
             refine sc h rfl rfl (fun h=>?_) (fun h=>?_)
             · obtain ⟨g33,h⟩:=gG h
               exact s_ret rfl (r17 _ (Option.some.inj h).symm _ ⟨_,fin (vs:=[]) rfl (absEN) rfl (ou_1 rfl (oc_hsG (f:=enc_Event) (xs:=r31.2) (by simpa using g33) rfl) (ou_f (ou_f (ou_f (ou_f (ou_n)))))),kl_c (kl_n)⟩)
             · refine ad 1 rfl ?_
               refine run_forget [0,1,2,3,4,10,11,12,13] [1] [⟨1,4,(r31.2).map enc_Event⟩] rfl rfl rfl rfl ?_
               exact j17 _ (Option.some.inj h).symm
           · refine ad 1 rfl ?_
             refine run_forget [0,1,2,3,4,10,11,12,13] [1] [⟨0,4,(u15.2.2).map enc_Event⟩] rfl rfl rfl rfl ?_
             exact j17 _ (Option.some.inj h).symm
         replace h:=hu16
         clear hu16
         refine sp 69 h rfl (fun h=>?_) (fun h=>?_)
         · refine c0 3 [72] [B (x6.2.2.2.2.1)] 82 (by kernel_rfl) ?_
           obtain ⟨u34,hu34,h⟩:=lJ h
           have j34 : Run (Ffbu_E slf_Ffbu) 1 Q (.code (cR (cL (cR (cR (cR (cR (cR (cR (cL (cL (cL (cR (cR Ffbu_c))))))))))))) :: .code (cR (cR (cR (cR (cR (cR (cR (cL (cL (cL (cR (cR Ffbu_c)))))))))))) :: .blk 1 :: .lp (cL (cL (cR (cR Ffbu_c)))) :: .blk 0 :: K) ⟨mkTm .dead 148 [(0,.hs 1 0 [] 4 0 ((u15.2.2).map enc_Event).length),(1,I (x6.1)),(2,I (x6.2.1)),(3,I (u13.1)),(4,.fn 52 []),(10,B (x6.2.2.2.1)),(11,B (x6.2.2.2.2.1)),(12,I ((w64 (x6.2.1 - x6.1)))),(13,I (u15.1)),(75,B (u34))],mkS (rtL [⟨0,4,(u15.2.2).map enc_Event⟩] 1),2⟩:=by
             refine run_forget [0,1,2,3,4,10,11,12,13,75] [1] [⟨0,4,(u15.2.2).map enc_Event⟩] rfl rfl rfl rfl ?_
             subst h
             exact j16
           replace h:=hu34
           clear hu34
           refine sp 72 h rfl (fun h=>?_) (fun h=>?_)
           · refine c0 4 [75] [B ((u15.2.1 == 1))] 130 (by kernel_rfl) ?_
             refine run_forget [0,1,2,3,4,10,11,12,13,75] [1] [⟨0,4,(u15.2.2).map enc_Event⟩] rfl rfl rfl rfl ?_
             subst h
             exact j34
           · refine c0 4 [75] [B (false)] 130 (by kernel_rfl) ?_
             refine run_forget [0,1,2,3,4,10,11,12,13,75] [1] [⟨0,4,(u15.2.2).map enc_Event⟩] rfl rfl rfl rfl ?_
             subst h
             exact j34
         · refine c0 7 [75] [B (false)] 130 (by kernel_rfl) ?_
           refine run_forget [0,1,2,3,4,10,11,12,13,75] [1] [⟨0,4,(u15.2.2).map enc_Event⟩] rfl rfl rfl rfl ?_
           subst h
           exact j16
       have r15 : ∀ r',y15=.inl r'→∀ st,Ffbu_Q slf_Ffbu (data_8,a_9,b_10,limit_11,cmp_12) r' st→Q st:=fun r' e st hq=>hr r' (hy151 r' e) st hq
       replace h:=hy15
       refine sc h rfl rfl (fun h=>?_) (fun h=>?_)
       · refine c0 6 [57,58,59,60] [.hs 1 0 [] 4 0 ((u13.2).map enc_Event).length,I (x6.1),I (x6.2.1),.fn 52 []] 258 (by kernel_rfl) ?_
         obtain ⟨r35,hr35,h⟩:=bS h
         obtain ⟨g36,h⟩:=gG h
         refine o 274 (.tup []) rfl rfl (e_callV rfl rfl (call_P rfl rfl rfl (avO (hd1 rfl (hd_hs (path:=[]) rfl rfl (ra_n) rfl)) (avS (shP rfl) (avS (shP rfl) (avS (shP rfl) (avN))))) (Ffbv_F hr35) (.inr rfl) (bl_c rfl rfl rfl rfl (bl_n)) rfl rfl rfl)) ?_
         try rw [len_eqM (f:=enc_Event) (xs:=u13.2) (ys:=r35) g36]
         refine c0 14 [13,14] [I ((w64 ((w64 (x6.2.1 - 1)) - (w64 (r14.1 - x6.1))))),I (1)] 402 (by kernel_rfl) ?_
         refine run_forget [0,1,2,3,4,10,11,12,13,14] [1] [⟨1,4,(r35).map enc_Event⟩] rfl rfl rfl rfl ?_
         exact j15 _ (Option.some.inj h).symm
       · refine ad 1 rfl ?_
         refine run_forget [0,1,2,3,4,10,11,12,13,14] [1] [⟨0,4,(u13.2).map enc_Event⟩] rfl rfl rfl rfl ?_
         exact j15 _ (Option.some.inj h).symm
     have r13 : ∀ r',y13=.inl r'→∀ st,Ffbu_Q slf_Ffbu (data_8,a_9,b_10,limit_11,cmp_12) r' st→Q st:=fun r' e st hq=>hr r' (hy131 r' e) st hq
     replace h:=hy13
     refine sc h rfl rfl (fun h=>?_) (fun h=>?_)
     · refine c0 6 [40,41,42,43] [.hs 1 0 [] 4 0 ((x6.2.2.2.2.2).map enc_Event).length,I (x6.1),I (x6.2.1),.fn 52 []] 226 (by kernel_rfl) ?_
       obtain ⟨r37,hr37,h⟩:=bS h
       obtain ⟨g38,h⟩:=gG h
       refine o 242 (.tup []) rfl rfl (e_callV rfl rfl (call_P rfl rfl rfl (avO (hd1 rfl (hd_hs (path:=[]) rfl rfl (ra_n) rfl)) (avS (shP rfl) (avS (shP rfl) (avS (shP rfl) (avN))))) (Ffbj_F hr37) (.inr rfl) (bl_c rfl rfl rfl rfl (bl_n)) rfl rfl rfl)) ?_
       try rw [len_eqM (f:=enc_Event) (xs:=x6.2.2.2.2.2) (ys:=r37) g38]
       refine c0 6 [3] [I ((w64 (x6.2.2.1 - 1)))] 290 (by kernel_rfl) ?_
       refine run_forget [0,1,2,3,4,10,11,12] [1] [⟨1,4,(r37).map enc_Event⟩] rfl rfl rfl rfl ?_
       exact j13 _ (Option.some.inj h).symm
     · refine ad 1 rfl ?_
       refine run_forget [0,1,2,3,4,10,11,12] [1] [⟨0,4,(x6.2.2.2.2.2).map enc_Event⟩] rfl rfl rfl rfl ?_
       exact j13 _ (Option.some.inj h).symm
theorem Ffbu_run (slf_Ffbu : ((List Event) × Int × Int × Int × Unit)→Option ((List Event))) (data_8 : List Event) (a_9 : Int) (b_10 : Int) (limit_11 : Int) (cmp_12 : Unit) (r : (List Event)) (h : Ffbu_B slf_Ffbu data_8 a_9 b_10 limit_11 cmp_12=some r) : RunF (Ffbu_E slf_Ffbu) Tryd.f94 [true,false,false,false,false] 1 (Ffbu_A (data_8,a_9,b_10,limit_11,cmp_12)) (Ffbu_R r):=by
 show Run _ _ (Ffbu_Q slf_Ffbu (data_8,a_9,b_10,limit_11,cmp_12) r) [.code Ffbu_c] _
 refine rin (n:=148) [(0,.hs 1 0 [] 4 0 ((data_8).map enc_Event).length),(1,I (a_9)),(2,I (b_10)),(3,I (limit_11)),(4,.fn 52 [])] [(1,some ⟨0,4,(data_8).map enc_Event⟩)] 2 (by kernel_rfl) (by kernel_rfl) (by kernel_rfl) rfl ?_
 unfold Ffbu_B at h
 refine c0 9 [10,11] [B (true),B (true)] 34 (by kernel_rfl) ?_
 obtain ⟨y39,hy39,hy391,hy392⟩:=bJ h
 refine s_loop rfl ?_
 refine run_forget [0,1,2,3,4,10,11] [1] [⟨0,4,(data_8).map enc_Event⟩] rfl rfl rfl rfl ?_
 refine Ffbu_la_run slf_Ffbu data_8 a_9 b_10 limit_11 cmp_12 rfl hy39 (fun r' e st hq=>by rw [hy391 r' e] at hq; exact hq) (fun u39 hu=>?_)
 replace h:=hy392 u39 hu
 cases h
theorem Ffbu_good {G : Go.Ln.Ground} : Good Tryd.prog G 94 Ffbu_ent:=good_rec fun slf_Ffbu g_Ffbu=>good_T (fnOf_good (gl_c Ffbm_good (gl_c Ffbl_good (gl_c Ffbk_good (gl_c Ffbt_good (gl_c Ffbs_good (gl_c g_Ffbu (gl_c Fff_good (gl_c Ffbr_good (gl_c Ffbv_good (gl_c Ffbj_good (gl_n)))))))))))) agree_mk (Checked.mixed Tryd.checked) Tryd.func94 (n:=5) (m:=1) ⟨rfl,rfl,by decide⟩ (fun _=>⟨rfl,rfl⟩) (fun a r h=>Ffbu_run slf_Ffbu a.1 a.2.1 a.2.2.1 a.2.2.2.1 a.2.2.2.2 r h)
def Ffbi_A : ((List Event) × Unit)→List V:=cA (usE 4 enc_Event) (oA (fun x : Unit=>(.fn 52 [] : V)))
def Ffbi_R (r : (List Event)) : V × List V:=(.tup [],[.usl 4 ((r).map enc_Event)])
noncomputable def Ffbi_ent : Ent:=entT [true,false] Ffbi_A Ffbi_R fun x=>Ffbi x.1 x.2
theorem Ffbi_F {x_4 : List Event} {cmp_5 : Unit} {r} (h : Ffbi x_4 cmp_5=some r) : (Ffbi_ent).F (Ffbi_A (x_4,cmp_5))=some (Ffbi_R r):=entT_F (cA_inj (usl_inj enc_Event_inj) (oA_inj (fn_inj0 ))) h
noncomputable def Ffbi_c : Code:=bodyOf Tryd.f70
noncomputable def Ffbi_E : Env:=mkE Tryd.prog [(95,Ffba_ent),(94,Ffbu_ent)]
def Ffbi_Q (x : (List Event) × Unit) (r : (List Event)) : St→Prop:=QF Ffbi_E Tryd.f70 [true,false] (Ffbi_A x) (Ffbi_R r)
theorem Ffbi_run (x_4 : List Event) (cmp_5 : Unit) (r : (List Event)) (h : Ffbi x_4 cmp_5=some r) : RunF Ffbi_E Tryd.f70 [true,false] 1 (Ffbi_A (x_4,cmp_5)) (Ffbi_R r):=by
 show Run _ _ (Ffbi_Q (x_4,cmp_5) r) [.code Ffbi_c] _
 refine rin (n:=14) [(0,.hs 1 0 [] 4 0 ((x_4).map enc_Event).length),(1,.fn 52 [])] [(1,some ⟨0,4,(x_4).map enc_Event⟩)] 2 (by kernel_rfl) (by kernel_rfl) (by kernel_rfl) rfl ?_
 unfold Ffbi at h
 refine c0 3 [5] [.hs 1 0 [] 4 0 ((x_4).map enc_Event).length] 18 (by kernel_rfl) ?_
 refine o 34 (I ((len x_4))) rfl rfl (e_len rfl rfl rfl (l_hsM (f:=enc_Event) (xs:=x_4) rfl rfl)) ?_
 refine c0 7 [7,8,10] [.hs 1 0 [] 4 0 ((x_4).map enc_Event).length,I ((len x_4)),.int .u64 ((IntKind.u64.wrap (len x_4)))] 114 (by kernel_rfl) ?_
 obtain ⟨r3,hr3,h⟩:=bS h
 refine o 130 (I (r3)) rfl rfl (e_callV rfl rfl (call_P rfl rfl rfl (avS (shP rfl) (avN)) (Ffba_F hr3) (.inr rfl) (bl_n) rfl rfl rfl)) ?_
 refine c0 1 [12] [.fn 52 []] 146 (by kernel_rfl) ?_
 obtain ⟨r4,hr4,h⟩:=bS h
 obtain ⟨g5,h⟩:=gG h
 refine o 162 (.tup []) rfl rfl (e_callV rfl rfl (call_P rfl rfl rfl (avO (hd1 rfl (hd_hs (path:=[]) rfl rfl (ra_n) rfl)) (avS (shP rfl) (avS (shP rfl) (avS (shP rfl) (avS (shP rfl) (avN)))))) (Ffbu_F hr4) (.inr rfl) (bl_c rfl rfl rfl rfl (bl_n)) rfl rfl rfl)) ?_
 try rw [len_eqM (f:=enc_Event) (xs:=x_4) (ys:=r4) g5]
 refine ad 1 rfl ?_
 obtain ⟨g6,h⟩:=gG h
 obtain rfl:=Option.some.inj h
 exact s_end ⟨_,fin (vs:=[]) rfl (absEN) rfl (ou_1 rfl (oc_hsG (f:=enc_Event) (xs:=r4) (by simpa using g6) rfl) (ou_f (ou_n))),kl_c (kl_n)⟩
theorem Ffbi_good {G : Go.Ln.Ground} : Good Tryd.prog G 70 Ffbi_ent:=good_T (fnOf_good (gl_c Ffba_good (gl_c Ffbu_good (gl_n)))) agree_mk (Checked.mixed Tryd.checked) Tryd.func70 (n:=2) (m:=1) ⟨rfl,rfl,by decide⟩ (fun _=>⟨rfl,rfl⟩) (fun a r h=>Ffbi_run a.1 a.2 r h)
def Ffj_A : ((List Event) × Int)→List V:=cA (slE enc_Event) (oA I)
def Ffj_R (r : (List Event) × Bool) : V × List V:=(.tup [.usl 4 ((r.1).map enc_Event),B (r.2)],[])
noncomputable def Ffj_ent : Ent:=entT [false,false] Ffj_A Ffj_R fun x=>Ffj x.1 x.2
theorem Ffj_F {list_1 : List Event} {parties_2 : Int} {r} (h : Ffj list_1 parties_2=some r) : (Ffj_ent).F (Ffj_A (list_1,parties_2))=some (Ffj_R r):=entT_F (cA_inj (isl_inj enc_Event_inj) (oA_inj I_inj)) h
noncomputable def Ffj_c : Code:=bodyOf Tryd.f39
noncomputable def Ffj_E : Env:=mkE Tryd.prog [(50,Ffk_ent),(56,Ffbc_ent),(70,Ffbi_ent)]
def Ffj_Q (x : (List Event) × Int) (r : (List Event) × Bool) : St→Prop:=QF Ffj_E Tryd.f39 [false,false] (Ffj_A x) (Ffj_R r)
theorem Ffj_run (list_1 : List Event) (parties_2 : Int) (r : (List Event) × Bool) (h : Ffj list_1 parties_2=some r) : RunF Ffj_E Tryd.f39 [false,false] 0 (Ffj_A (list_1,parties_2)) (Ffj_R r):=by
 show Run _ _ (Ffj_Q (list_1,parties_2) r) [.code Ffj_c] _
 refine rin (n:=16) [(0,.isl false ((list_1).map enc_Event)),(1,I (parties_2))] [] 1 (by kernel_rfl) (by kernel_rfl) (by kernel_rfl) rfl ?_
 unfold Ffj at h
 refine c0 10 [7,8] [.isl false ((list_1).map enc_Event),I (parties_2)] 65 (by kernel_rfl) ?_
 obtain ⟨r3,hr3,h⟩:=bS h
 refine o 81 (B (r3)) rfl rfl (e_callV rfl rfl (call_P rfl rfl rfl (avS (shP rfl) (avS (shP rfl) (avN))) (Ffk_F hr3) (.inr rfl) (bl_n) rfl rfl rfl)) ?_
 refine c0 2 [10] [B ((!r3))] 97 (by kernel_rfl) ?_
 refine sc h rfl rfl (fun h=>?_) (fun h=>?_)
 · refine c0 5 [4,5] [.isl true [],B (false)] 129 (by kernel_rfl) ?_
   refine run_own 4 0 4 145 (.hs 129 0 [] 4 0 0) rfl rfl rfl rfl rfl ?_
   obtain rfl:=Option.some.inj h
   exact s_ret rfl ⟨_,fin (vs:=[.hs 129 0 [] 4 0 0,B (false)]) rfl (absE (abs1 rfl (abs_hs rfl rfl)) (absE (absorb_plain rfl) (absEN))) rfl (ou_f (ou_f (ou_n))),kl_n⟩
 · refine ad 1 rfl ?_
   refine c0 3 [11] [.isl false ((list_1).map enc_Event)] 113 (by kernel_rfl) ?_
   obtain ⟨r4,hr4,h⟩:=bS h
   refine o 129 (.hs 113 0 [] 4 0 ((r4).map enc_Event).length) rfl rfl (e_callV rfl rfl (call_P rfl rfl rfl (avS (shP rfl) (avN)) (Ffbc_F hr4) (.inr rfl) (bl_n) rfl rfl rfl)) ?_
   refine c0 5 [6,13] [.hs 113 0 [] 4 0 ((r4).map enc_Event).length,.hs 113 0 [] 4 0 ((r4).map enc_Event).length] 161 (by kernel_rfl) ?_
   obtain ⟨r5,hr5,h⟩:=bS h
   obtain ⟨g6,h⟩:=gG h
   refine o 177 (.tup []) rfl rfl (e_callV rfl rfl (call_P rfl rfl rfl (avO (hd1 rfl (hd_hs (path:=[]) rfl rfl (ra_n) rfl)) (avS (shP rfl) (avN))) (Ffbi_F hr5) (.inr rfl) (bl_c rfl rfl rfl rfl (bl_n)) rfl rfl rfl)) ?_
   try rw [len_eqM (f:=enc_Event) (xs:=r4) (ys:=r5) g6]
   refine c0 7 [4,5] [.hs 113 0 [] 4 0 ((r5).map enc_Event).length,B (true)] 225 (by kernel_rfl) ?_
   obtain rfl:=Option.some.inj h
   exact s_ret rfl ⟨_,fin (vs:=[.hs 113 0 [] 4 0 ((r5).map enc_Event).length,B (true)]) rfl (absE (abs1 rfl (abs_hs rfl rfl)) (absE (absorb_plain rfl) (absEN))) rfl (ou_f (ou_f (ou_n))),kl_n⟩
theorem Ffj_good {G : Go.Ln.Ground} : Good Tryd.prog G 39 Ffj_ent:=good_T (fnOf_good (gl_c Ffk_good (gl_c Ffbc_good (gl_c Ffbi_good (gl_n))))) agree_mk (Checked.mixed Tryd.checked) Tryd.func39 (n:=2) (m:=0) ⟨rfl,rfl,by decide⟩ (fun _=>⟨rfl,rfl⟩) (fun a r h=>Ffj_run a.1 a.2 r h)
def Ffi_A : ((List Event) × (List Event) × Int)→List V:=cA (slE enc_Event) (cA (slE enc_Event) (oA I))
def Ffi_R (r : (List Event) × Bool) : V × List V:=(.tup [.usl 4 ((r.1).map enc_Event),B (r.2)],[])
noncomputable def Ffi_ent : Ent:=entT [false,false,false] Ffi_A Ffi_R fun x=>Ffi x.1 x.2.1 x.2.2
theorem Ffi_F {a_1 : List Event} {b_2 : List Event} {parties_3 : Int} {r} (h : Ffi a_1 b_2 parties_3=some r) : (Ffi_ent).F (Ffi_A (a_1,b_2,parties_3))=some (Ffi_R r):=entT_F (cA_inj (isl_inj enc_Event_inj) (cA_inj (isl_inj enc_Event_inj) (oA_inj I_inj))) h
noncomputable def Ffi_c : Code:=bodyOf Tryd.f41
noncomputable def Ffi_E : Env:=mkE Tryd.prog [(16,Ffg_ent),(56,Ffbc_ent),(39,Ffj_ent)]
def Ffi_Q (x : (List Event) × (List Event) × Int) (r : (List Event) × Bool) : St→Prop:=QF Ffi_E Tryd.f41 [false,false,false] (Ffi_A x) (Ffi_R r)
theorem Ffi_run (a_1 : List Event) (b_2 : List Event) (parties_3 : Int) (r : (List Event) × Bool) (h : Ffi a_1 b_2 parties_3=some r) : RunF Ffi_E Tryd.f41 [false,false,false] 0 (Ffi_A (a_1,b_2,parties_3)) (Ffi_R r):=by
 show Run _ _ (Ffi_Q (a_1,b_2,parties_3) r) [.code Ffi_c] _
 refine rin (n:=26) [(0,.isl false ((a_1).map enc_Event)),(1,.isl false ((b_2).map enc_Event)),(2,I (parties_3))] [] 1 (by kernel_rfl) (by kernel_rfl) (by kernel_rfl) rfl ?_
 unfold Ffi at h
 refine c0 10 [8,9] [.isl false ((a_1).map enc_Event),I (parties_3)] 65 (by kernel_rfl) ?_
 obtain ⟨r4,hr4,h⟩:=bS h
 refine o 81 (B (r4)) rfl rfl (e_callV rfl rfl (call_P rfl rfl rfl (avS (shP rfl) (avS (shP rfl) (avN))) (Ffg_F hr4) (.inr rfl) (bl_n) rfl rfl rfl)) ?_
 refine c0 2 [12] [B ((!r4))] 113 (by kernel_rfl) ?_
 obtain ⟨y5,hy5,hy51,hy52⟩:=bJ h
 have j5 : ∀ u5,y5=.inr u5→Run Ffi_E 0 (Ffi_Q (a_1,b_2,parties_3) r) (.code (cR (cL (cR Ffi_c))) :: .code (cR (cR Ffi_c)) :: []) ⟨mkTm .dead 26 [(0,.isl false ((a_1).map enc_Event)),(1,.isl false ((b_2).map enc_Event)),(2,I (parties_3)),(17,B (u5))],mkS (rtL [] 1),1⟩:=by
   intro u5 hu
   replace h:=hy52 u5 hu
   refine sc h rfl rfl (fun h=>?_) (fun h=>?_)
   · refine c0 5 [6,7] [.isl true [],B (false)] 33 (by kernel_rfl) ?_
     refine run_own 6 0 4 49 (.hs 33 0 [] 4 0 0) rfl rfl rfl rfl rfl ?_
     obtain rfl:=Option.some.inj h
     exact s_ret rfl ⟨_,fin (vs:=[.hs 33 0 [] 4 0 0,B (false)]) rfl (absE (abs1 rfl (abs_hs rfl rfl)) (absE (absorb_plain rfl) (absEN))) rfl (ou_f (ou_f (ou_f (ou_n)))),kl_n⟩
   · refine ad 1 rfl ?_
     refine c0 3 [18] [.isl false ((a_1).map enc_Event)] 17 (by kernel_rfl) ?_
     obtain ⟨r6,hr6,h⟩:=bS h
     refine o 33 (.hs 17 0 [] 4 0 ((r6).map enc_Event).length) rfl rfl (e_callV rfl rfl (call_P rfl rfl rfl (avS (shP rfl) (avN)) (Ffbc_F hr6) (.inr rfl) (bl_n) rfl rfl rfl)) ?_
     refine c0 1 [20] [.isl false ((b_2).map enc_Event)] 49 (by kernel_rfl) ?_
     obtain ⟨a7,ha7,h⟩:=bS h
     refine o 65 (.hs 49 0 [] 4 0 ((a7).map enc_Event).length) rfl rfl (e_append rfl rfl rfl rfl rfl (ap_hsM (path:=[]) (f:=enc_Event) (xs:=r6) (ys:=b_2) rfl rfl (take_isl) rfl rfl rfl (ra_n) rfl (by decide) enc_Event_cells ha7 rfl (to_n))) ?_
     refine c0 1 [22] [I (parties_3)] 81 (by kernel_rfl) ?_
     obtain ⟨r8,hr8,h⟩:=bS h
     refine o 97 (.tup [.hs 81 0 [] 4 0 ((r8.1).map enc_Event).length,B (r8.2)]) rfl rfl (e_callV rfl rfl (call_P rfl rfl rfl (avS (sh1 rfl rfl (sh_hsM (f:=enc_Event) (g:=enc_Event) (xs:=a7) rfl rfl (imms_of enc_Event_imm))) (avS (shP rfl) (avN))) (Ffj_F hr8) (.inl (by simp [hasImm,hasImms,str,himm_map (f:=enc_Event) enc_Event_himm])) (bl_n) rfl rfl rfl)) ?_
     refine c0 5 [6,7] [.hs 81 0 [] 4 0 ((r8.1).map enc_Event).length,B (r8.2)] 161 (by kernel_rfl) ?_
     obtain rfl:=Option.some.inj h
     exact s_ret rfl ⟨_,fin (vs:=[.hs 81 0 [] 4 0 ((r8.1).map enc_Event).length,B (r8.2)]) rfl (absE (abs1 rfl (abs_hs rfl rfl)) (absE (absorb_plain rfl) (absEN))) rfl (ou_f (ou_f (ou_f (ou_n)))),kl_n⟩
 have r5 : ∀ r',y5=.inl r'→∀ st,Ffi_Q (a_1,b_2,parties_3) r' st→(Ffi_Q (a_1,b_2,parties_3) r) st:=fun r' e st hq=>by rw [hy51 r' e] at hq; exact hq
 replace h:=hy5
 refine sp 12 h rfl (fun h=>?_) (fun h=>?_)
 · refine c0 6 [17] [B (true)] 193 (by kernel_rfl) ?_
   refine run_forget [0,1,2,17] [] [] rfl rfl rfl rfl ?_
   exact j5 _ (Option.some.inj h).symm
 · refine c0 2 [13,14] [.isl false ((b_2).map enc_Event),I (parties_3)] 145 (by kernel_rfl) ?_
   obtain ⟨r9,hr9,h⟩:=bS h
   refine og 161 (B (r9)) rfl rfl rfl rfl (e_callV rfl rfl (call_P rfl rfl rfl (avS (shP rfl) (avS (shP rfl) (avN))) (Ffg_F hr9) (.inr rfl) (bl_n) rfl rfl rfl)) ?_
   refine c0 3 [17] [B ((!r9))] 193 (by kernel_rfl) ?_
   refine run_forget [0,1,2,17] [] [] rfl rfl rfl rfl ?_
   exact j5 _ (Option.some.inj h).symm
theorem Ffi_good {G : Go.Ln.Ground} : Good Tryd.prog G 41 Ffi_ent:=good_T (fnOf_good (gl_c Ffg_good (gl_c Ffbc_good (gl_c Ffj_good (gl_n))))) agree_mk (Checked.mixed Tryd.checked) Tryd.func41 (n:=3) (m:=0) ⟨rfl,rfl,by decide⟩ (fun _=>⟨rfl,rfl⟩) (fun a r h=>Ffi_run a.1 a.2.1 a.2.2 r h)
def Ffr_A : (Event × Event)→List V:=cA enc_Event (oA enc_Event)
def Ffr_R (r : Bool) : V × List V:=(B (r),[])
noncomputable def Ffr_ent : Ent:=entT [false,false] Ffr_A Ffr_R fun x=>Ffr x.1 x.2
theorem Ffr_F {a_1 : Event} {b_2 : Event} {r} (h : Ffr a_1 b_2=some r) : (Ffr_ent).F (Ffr_A (a_1,b_2))=some (Ffr_R r):=entT_F (cA_inj enc_Event_inj (oA_inj enc_Event_inj)) h
noncomputable def Ffr_c : Code:=bodyOf Tryd.f53
noncomputable def Ffr_E : Env:=mkE Tryd.prog []
def Ffr_Q (x : Event × Event) (r : Bool) : St→Prop:=QF Ffr_E Tryd.f53 [false,false] (Ffr_A x) (Ffr_R r)
theorem Ffr_run (a_1 : Event) (b_2 : Event) (r : Bool) (h : Ffr a_1 b_2=some r) : RunF Ffr_E Tryd.f53 [false,false] 0 (Ffr_A (a_1,b_2)) (Ffr_R r):=by
 show Run _ _ (Ffr_Q (a_1,b_2) r) [.code Ffr_c] _
 refine rin (n:=25) [(0,enc_Event a_1),(1,enc_Event b_2)] [] 1 (by kernel_rfl) (by kernel_rfl) (by kernel_rfl) rfl ?_
 unfold Ffr at h
 refine ck 15 [2,3,9] [] [1,17] [] [.hp 1 0 [] 4 0 0,.hp 17 0 [] 4 0 0,B ((a_1.Day != b_2.Day))] [some ⟨0,4,[enc_Event a_1]⟩,some ⟨0,4,[enc_Event b_2]⟩] 129 (by kernel_rfl) ?_
 refine sc h rfl rfl (fun h=>?_) (fun h=>?_)
 · refine c0 4 [4] [B (false)] 145 (by kernel_rfl) ?_
   obtain rfl:=Option.some.inj h
   exact s_ret rfl ⟨_,fin (vs:=[B (false)]) rfl (absE (absorb_plain rfl) (absEN)) rfl (ou_f (ou_f (ou_n))),kl_n⟩
 · refine ad 1 rfl ?_
   refine c0 9 [14] [B ((a_1.Party != b_2.Party))] 209 (by kernel_rfl) ?_
   refine sc h rfl rfl (fun h=>?_) (fun h=>?_)
   · refine c0 4 [4] [B (false)] 225 (by kernel_rfl) ?_
     obtain rfl:=Option.some.inj h
     exact s_ret rfl ⟨_,fin (vs:=[B (false)]) rfl (absE (absorb_plain rfl) (absEN)) rfl (ou_f (ou_f (ou_n))),kl_n⟩
   · refine ad 1 rfl ?_
     refine c0 9 [19] [B ((!(a_1.Action == b_2.Action)))] 289 (by kernel_rfl) ?_
     refine sc h rfl rfl (fun h=>?_) (fun h=>?_)
     · refine c0 4 [4] [B (false)] 305 (by kernel_rfl) ?_
       obtain rfl:=Option.some.inj h
       exact s_ret rfl ⟨_,fin (vs:=[B (false)]) rfl (absE (absorb_plain rfl) (absEN)) rfl (ou_f (ou_f (ou_n))),kl_n⟩
     · refine ad 1 rfl ?_
       refine c0 9 [24] [B ((a_1.Amount != b_2.Amount))] 369 (by kernel_rfl) ?_
       refine sc h rfl rfl (fun h=>?_) (fun h=>?_)
       · refine c0 4 [4] [B (false)] 385 (by kernel_rfl) ?_
         obtain rfl:=Option.some.inj h
         exact s_ret rfl ⟨_,fin (vs:=[B (false)]) rfl (absE (absorb_plain rfl) (absEN)) rfl (ou_f (ou_f (ou_n))),kl_n⟩
       · refine ad 1 rfl ?_
         refine c0 4 [4] [B (true)] 385 (by kernel_rfl) ?_
         obtain rfl:=Option.some.inj h
         exact s_ret rfl ⟨_,fin (vs:=[B (true)]) rfl (absE (absorb_plain rfl) (absEN)) rfl (ou_f (ou_f (ou_n))),kl_n⟩
theorem Ffr_good {G : Go.Ln.Ground} : Good Tryd.prog G 53 Ffr_ent:=good_T (fnOf_good (gl_n)) agree_mk (Checked.mixed Tryd.checked) Tryd.func53 (n:=2) (m:=0) ⟨rfl,rfl,by decide⟩ (fun _=>⟨rfl,rfl⟩) (fun a r h=>Ffr_run a.1 a.2 r h)
def Ffs_A : ((List Event) × (List Event))→List V:=cA (slE enc_Event) (oA (slE enc_Event))
def Ffs_R (r : Bool) : V × List V:=(B (r),[])
noncomputable def Ffs_ent : Ent:=entT [false,false] Ffs_A Ffs_R fun x=>Ffs x.1 x.2
theorem Ffs_F {a_1 : List Event} {b_2 : List Event} {r} (h : Ffs a_1 b_2=some r) : (Ffs_ent).F (Ffs_A (a_1,b_2))=some (Ffs_R r):=entT_F (cA_inj (isl_inj enc_Event_inj) (oA_inj (isl_inj enc_Event_inj))) h
noncomputable def Ffs_c : Code:=bodyOf Tryd.f17
noncomputable def Ffs_E : Env:=mkE Tryd.prog [(53,Ffr_ent)]
def Ffs_Q (x : (List Event) × (List Event)) (r : Bool) : St→Prop:=QF Ffs_E Tryd.f17 [false,false] (Ffs_A x) (Ffs_R r)
theorem Ffs_la_run (a_1 : List Event) (b_2 : List Event)  {Q : St→Prop} {K : List It} (hK : noD K=true) {x3 : Int} {y : Bool ⊕ Unit} (h : Ffs_la a_1 b_2 x3=some y) : (∀ r',y=.inl r'→∀ st,Ffs_Q (a_1,b_2) r' st→Q st)→(∀ u : Unit,y=.inr u→Run Ffs_E 0 Q K ⟨mkTm .dead 27 [],mkS (rtL [] 1),1⟩)→Run Ffs_E 0 Q (.code (cL (cL (cR (cL (cR (cR Ffs_c)))))) :: .lp (cL (cL (cR (cL (cR (cR Ffs_c)))))) :: .blk 0 :: K) ⟨mkTm .dead 27 [(0,.isl false ((a_1).map enc_Event)),(1,.isl false ((b_2).map enc_Event)),(5,I (x3))],mkS (rtL [] 1),1⟩:=by
 refine fix_ind (P:=fun (x3 : Int) (y : Bool ⊕ Unit)=>(∀ r',y=.inl r'→∀ st,Ffs_Q (a_1,b_2) r' st→Q st)→(∀ u : Unit,y=.inr u→Run Ffs_E 0 Q K ⟨mkTm .dead 27 [],mkS (rtL [] 1),1⟩)→Run Ffs_E 0 Q (.code (cL (cL (cR (cL (cR (cR Ffs_c)))))) :: .lp (cL (cL (cR (cL (cR (cR Ffs_c)))))) :: .blk 0 :: K) ⟨mkTm .dead 27 [(0,.isl false ((a_1).map enc_Event)),(1,.isl false ((b_2).map enc_Event)),(5,I (x3))],mkS (rtL [] 1),1⟩) (Ffs_la_fin a_1 b_2) ?_ h
 clear h y x3
 intro self ih x3 y h hr hn
 unfold Ffs_la_F at h
 refine c0 5 [11,12] [I (x3),.isl false ((a_1).map enc_Event)] 33 (by kernel_rfl) ?_
 refine o 49 (I ((len a_1))) rfl rfl (e_len rfl rfl rfl (l_isl rfl)) ?_
 refine c0 2 [14] [B ((decide (x3 < (len a_1))))] 65 (by kernel_rfl) ?_
 refine sc h rfl rfl (fun h=>?_) (fun h=>?_)
 · refine ad 1 rfl ?_
   refine ad 3 rfl ?_
   refine s_draw [0,0,3,7,0,0,48,112,255,511] rfl (by decide +kernel) ?_
   refine dp [] [] (.isl false ((a_1).map enc_Event)) rfl (e_move rfl) rfl (rfl) (by decide) ?_
   refine dp [] [] (I (x3)) rfl (e_move rfl) rfl (rfl) (by decide) ?_
   obtain ⟨e4,he4,h⟩:=bS h
   refine dp [] [] (.iptr (enc_Event e4) 0) rfl (e_indexAddr rfl rfl rfl (ix_islE rfl rfl rfl rfl he4)) rfl (rfl) (by decide) ?_
   refine dp [] [] (enc_Event e4) rfl (e_ld rfl rfl) rfl (rfl) (by decide) ?_
   refine dp [] [] (.isl false ((b_2).map enc_Event)) rfl (e_move rfl) rfl (rfl) (by decide) ?_
   refine dp [] [] (I (x3)) rfl (e_move rfl) rfl (rfl) (by decide) ?_
   obtain ⟨e5,he5,h⟩:=bS h
   refine dp [] [] (.iptr (enc_Event e5) 0) rfl (e_indexAddr rfl rfl rfl (ix_islE rfl rfl rfl rfl he5)) rfl (rfl) (by decide) ?_
   refine dp [] [] (enc_Event e5) rfl (e_ld rfl rfl) rfl (rfl) (by decide) ?_
   obtain ⟨r6,hr6,h⟩:=bS h
   refine dp [] [] (B (r6)) rfl (e_callV rfl rfl (call_P rfl rfl rfl (avS (shP rfl) (avS (shP rfl) (avN))) (Ffr_F hr6) (.inr rfl) (bl_n) rfl rfl rfl)) rfl (w_callO rfl rfl rfl rfl (avS (shP rfl) (avS (shP rfl) (avN))) (Ffr_F hr6) (.inr rfl) rfl) (by decide) ?_
   refine dp [] [] (B ((!r6))) rfl (e_un rfl rfl) rfl (rfl) (by decide) ?_
   refine de 225 rfl rfl ?_
   refine sc h rfl rfl (fun h=>?_) (fun h=>?_)
   · refine c0 4 [4] [B (false)] 241 (by kernel_rfl) ?_
     exact s_ret rfl (hr _ (Option.some.inj h).symm _ ⟨_,fin (vs:=[B (false)]) rfl (absE (absorb_plain rfl) (absEN)) rfl (ou_f (ou_f (ou_n))),kl_n⟩)
   · refine ad 1 rfl ?_
     refine c0 6 [5] [I ((w64 (x3 + 1)))] 273 (by kernel_rfl) ?_
     refine s_lp ?_
     refine run_forget [0,1,5] [] [] rfl rfl rfl rfl ?_
     exact ih _ _ h hr hn
 · refine ad 1 rfl ?_
   refine run_forget [] [] [] rfl rfl rfl hK ?_
   exact hn _ (Option.some.inj h).symm
theorem Ffs_run (a_1 : List Event) (b_2 : List Event) (r : Bool) (h : Ffs a_1 b_2=some r) : RunF Ffs_E Tryd.f17 [false,false] 0 (Ffs_A (a_1,b_2)) (Ffs_R r):=by
 show Run _ _ (Ffs_Q (a_1,b_2) r) [.code Ffs_c] _
 refine rin (n:=27) [(0,.isl false ((a_1).map enc_Event)),(1,.isl false ((b_2).map enc_Event))] [] 1 (by kernel_rfl) (by kernel_rfl) (by kernel_rfl) rfl ?_
 unfold Ffs at h
 refine c0 8 [6] [.isl false ((a_1).map enc_Event)] 33 (by kernel_rfl) ?_
 refine o 49 (I ((len a_1))) rfl rfl (e_len rfl rfl rfl (l_isl rfl)) ?_
 refine c0 1 [8] [.isl false ((b_2).map enc_Event)] 65 (by kernel_rfl) ?_
 refine o 81 (I ((len b_2))) rfl rfl (e_len rfl rfl rfl (l_isl rfl)) ?_
 refine c0 2 [10] [B (((len a_1) != (len b_2)))] 97 (by kernel_rfl) ?_
 refine sc h rfl rfl (fun h=>?_) (fun h=>?_)
 · refine c0 4 [4] [B (false)] 113 (by kernel_rfl) ?_
   obtain rfl:=Option.some.inj h
   exact s_ret rfl ⟨_,fin (vs:=[B (false)]) rfl (absE (absorb_plain rfl) (absEN)) rfl (ou_f (ou_f (ou_n))),kl_n⟩
 · refine ad 1 rfl ?_
   refine c0 6 [5] [I (0)] 113 (by kernel_rfl) ?_
   obtain ⟨y7,hy7,hy71,hy72⟩:=bJ h
   refine s_loop rfl ?_
   refine run_forget [0,1,5] [] [] rfl rfl rfl rfl ?_
   refine Ffs_la_run a_1 b_2 rfl hy7 (fun r' e st hq=>by rw [hy71 r' e] at hq; exact hq) (fun u7 hu=>?_)
   replace h:=hy72 u7 hu
   refine c0 4 [4] [B (true)] 17 (by kernel_rfl) ?_
   obtain rfl:=Option.some.inj h
   exact s_ret rfl ⟨_,fin (vs:=[B (true)]) rfl (absE (absorb_plain rfl) (absEN)) rfl (ou_f (ou_f (ou_n))),kl_n⟩
theorem Ffs_good {G : Go.Ln.Ground} : Good Tryd.prog G 17 Ffs_ent:=good_T (fnOf_good (gl_c Ffr_good (gl_n))) agree_mk (Checked.mixed Tryd.checked) Tryd.func17 (n:=2) (m:=0) ⟨rfl,rfl,by decide⟩ (fun _=>⟨rfl,rfl⟩) (fun a r h=>Ffs_run a.1 a.2 r h)
def Ffv_A : Int→List V:=oA I
def Ffv_R (r : Str) : V × List V:=(str (r),[])
noncomputable def Ffv_ent : Ent:=entT [false] Ffv_A Ffv_R fun x=>Ffv x
theorem Ffv_F {k_1 : Int} {r} (h : Ffv k_1=some r) : (Ffv_ent).F (Ffv_A k_1)=some (Ffv_R r):=entT_F (oA_inj I_inj) h
noncomputable def Ffv_c : Code:=bodyOf Tryd.f57
noncomputable def Ffv_E : Env:=mkE Tryd.prog []
def Ffv_Q (x : Int) (r : Str) : St→Prop:=QF Ffv_E Tryd.f57 [false] (Ffv_A x) (Ffv_R r)
theorem Ffv_la_run (k_1 : Int)  {Q : St→Prop} {K : List It} (hK : noD K=true) {x2 : Int × Str} {y : Str ⊕ Str} (h : Ffv_la k_1 x2=some y) : (∀ r',y=.inl r'→∀ st,Ffv_Q k_1 r' st→Q st)→(∀ u : Str,y=.inr u→Run Ffv_E 0 Q K ⟨mkTm .dead 20 [(3,str (u))],mkS (rtL [] 1),1⟩)→Run Ffv_E 0 Q (.code (cL (cL (cL (cR (cR (cR Ffv_c)))))) :: .lp (cL (cL (cL (cR (cR (cR Ffv_c)))))) :: .blk 0 :: K) ⟨mkTm .dead 20 [(0,I (x2.1)),(3,str (x2.2))],mkS (rtL [] 1),1⟩:=by
 refine fix_ind (P:=fun (x2 : Int × Str) (y : Str ⊕ Str)=>(∀ r',y=.inl r'→∀ st,Ffv_Q k_1 r' st→Q st)→(∀ u : Str,y=.inr u→Run Ffv_E 0 Q K ⟨mkTm .dead 20 [(3,str (u))],mkS (rtL [] 1),1⟩)→Run Ffv_E 0 Q (.code (cL (cL (cL (cR (cR (cR Ffv_c)))))) :: .lp (cL (cL (cL (cR (cR (cR Ffv_c)))))) :: .blk 0 :: K) ⟨mkTm .dead 20 [(0,I (x2.1)),(3,str (x2.2))],mkS (rtL [] 1),1⟩) (Ffv_la_fin k_1) ?_ h
 clear h y x2
 intro self ih x2 y h hr hn
 unfold Ffv_la_F at h
 refine c0 6 [7] [B ((decide (x2.1 > 0)))] 33 (by kernel_rfl) ?_
 refine sc h rfl rfl (fun h=>?_) (fun h=>?_)
 · refine ad 1 rfl ?_
   refine c0 7 [11] [.int .u8 ((IntKind.u8.wrap (w64 (48 + (x2.1.tmod 10)))))] 97 (by kernel_rfl) ?_
   refine o 113 (.hs 97 0 [] 1 0 1) rfl rfl (e_buildSlice rfl (bs_mk (f:=I) (xs:=[]) (z:=.int .u8 (0)) (es:=[.int .u8 ((IntKind.u8.wrap (w64 (48 + (x2.1.tmod 10)))))]) (ws:=[.int .u8 ((IntKind.u8.wrap (w64 (48 + (x2.1.tmod 10)))))]) rfl rfl rfl (by decide) rfl (abs_each_plain rfl) rfl)) ?_
   refine o 129 (str (([(IntKind.u8.wrap (w64 (48 + (x2.1.tmod 10))))].map fun n=>UInt8.ofNat n.toNat))) rfl rfl (e_conv rfl (cv_bytes (xs:=[(IntKind.u8.wrap (w64 (48 + (x2.1.tmod 10))))]) rfl rfl rfl (rw_hs (path:=[]) rfl rfl (ra_n) rfl))) ?_
   refine c0 1 [14] [str (x2.2)] 145 (by kernel_rfl) ?_
   obtain ⟨s3,hs3,h⟩:=bS h
   refine o 161 (str (s3)) rfl rfl (e_bin rfl rfl (b_cat hs3)) ?_
   refine c0 8 [0,3] [I ((w64 (x2.1.tdiv 10))),str (s3)] 225 (by kernel_rfl) ?_
   refine s_lp ?_
   refine run_forget [0,3] [] [] rfl rfl rfl rfl ?_
   exact ih _ _ h hr hn
 · refine ad 1 rfl ?_
   refine run_forget [3] [] [] rfl rfl rfl hK ?_
   exact hn _ (Option.some.inj h).symm
theorem Ffv_run (k_1 : Int) (r : Str) (h : Ffv k_1=some r) : RunF Ffv_E Tryd.f57 [false] 0 (Ffv_A k_1) (Ffv_R r):=by
 show Run _ _ (Ffv_Q k_1 r) [.code Ffv_c] _
 refine rin (n:=20) [(0,I (k_1))] [] 1 (by kernel_rfl) (by kernel_rfl) (by kernel_rfl) rfl ?_
 unfold Ffv at h
 refine c0 10 [5] [B ((decide (k_1 ≤ 0)))] 49 (by kernel_rfl) ?_
 refine sc h rfl rfl (fun h=>?_) (fun h=>?_)
 · refine c0 4 [2] [str (([109,48] : Str))] 65 (by kernel_rfl) ?_
   obtain rfl:=Option.some.inj h
   exact s_ret rfl ⟨_,fin (vs:=[str (([109,48] : Str))]) rfl (absE (absorb_plain rfl) (absEN)) rfl (ou_f (ou_n)),kl_n⟩
 · refine ad 1 rfl ?_
   refine c0 6 [3] [str (([] : Str))] 65 (by kernel_rfl) ?_
   obtain ⟨y4,hy4,hy41,hy42⟩:=bJ h
   refine s_loop rfl ?_
   refine run_forget [0,3] [] [] rfl rfl rfl rfl ?_
   refine Ffv_la_run k_1 rfl hy4 (fun r' e st hq=>by rw [hy41 r' e] at hq; exact hq) (fun u4 hu=>?_)
   replace h:=hy42 u4 hu
   refine c0 3 [18] [str (u4)] 17 (by kernel_rfl) ?_
   obtain ⟨s5,hs5,h⟩:=bS h
   refine o 33 (str (s5)) rfl rfl (e_bin rfl rfl (b_cat hs5)) ?_
   refine c0 2 [2] [str (s5)] 49 (by kernel_rfl) ?_
   obtain rfl:=Option.some.inj h
   exact s_ret rfl ⟨_,fin (vs:=[str (s5)]) rfl (absE (absorb_plain rfl) (absEN)) rfl (ou_f (ou_n)),kl_n⟩
theorem Ffv_good {G : Go.Ln.Ground} : Good Tryd.prog G 57 Ffv_ent:=good_T (fnOf_good (gl_n)) agree_mk (Checked.mixed Tryd.checked) Tryd.func57 (n:=1) (m:=0) ⟨rfl,rfl,by decide⟩ (fun _=>⟨rfl,rfl⟩) (fun a r h=>Ffv_run a r h)
def Ffu_A : ((List Event) × Int)→List V:=cA (usE 4 enc_Event) (oA I)
def Ffu_R (r : Int × (List Event)) : V × List V:=(I (r.1),[.usl 4 ((r.2).map enc_Event)])
noncomputable def Ffu_ent : Ent:=entT [true,false] Ffu_A Ffu_R fun x=>Ffu x.1 x.2
theorem Ffu_F {a_6 : List Event} {k_7 : Int} {r} (h : Ffu a_6 k_7=some r) : (Ffu_ent).F (Ffu_A (a_6,k_7))=some (Ffu_R r):=entT_F (cA_inj (usl_inj enc_Event_inj) (oA_inj I_inj)) h
noncomputable def Ffu_c : Code:=bodyOf Tryd.f22
noncomputable def Ffu_E : Env:=mkE Tryd.prog [(57,Ffv_ent)]
def Ffu_Q (x : (List Event) × Int) (r : Int × (List Event)) : St→Prop:=QF Ffu_E Tryd.f22 [true,false] (Ffu_A x) (Ffu_R r)
theorem Ffu_la_run (a_6 : List Event) (k_7 : Int)  {Q : St→Prop} {K : List It} (hK : noD K=true) {x3 : Int × Int × (List Event)} {y : (Int × (List Event)) ⊕ (Int × (List Event))} (h : Ffu_la a_6 k_7 x3=some y) : (∀ r',y=.inl r'→∀ st,Ffu_Q (a_6,k_7) r' st→Q st)→(∀ u : Int × (List Event),y=.inr u→Run Ffu_E 1 Q K ⟨mkTm .dead 42 [(1,I (u.1))],mkS (rtL [⟨0,4,(u.2).map enc_Event⟩] 1),2⟩)→Run Ffu_E 1 Q (.code (cL (cL (cR (cL (cR Ffu_c))))) :: .lp (cL (cL (cR (cL (cR Ffu_c))))) :: .blk 0 :: K) ⟨mkTm .dead 42 [(0,.hs 1 0 [] 4 0 ((x3.2.2).map enc_Event).length),(1,I (x3.1)),(5,I (x3.2.1))],mkS (rtL [⟨0,4,(x3.2.2).map enc_Event⟩] 1),2⟩:=by
 refine fix_ind (P:=fun (x3 : Int × Int × (List Event)) (y : (Int × (List Event)) ⊕ (Int × (List Event)))=>(∀ r',y=.inl r'→∀ st,Ffu_Q (a_6,k_7) r' st→Q st)→(∀ u : Int × (List Event),y=.inr u→Run Ffu_E 1 Q K ⟨mkTm .dead 42 [(1,I (u.1))],mkS (rtL [⟨0,4,(u.2).map enc_Event⟩] 1),2⟩)→Run Ffu_E 1 Q (.code (cL (cL (cR (cL (cR Ffu_c))))) :: .lp (cL (cL (cR (cL (cR Ffu_c))))) :: .blk 0 :: K) ⟨mkTm .dead 42 [(0,.hs 1 0 [] 4 0 ((x3.2.2).map enc_Event).length),(1,I (x3.1)),(5,I (x3.2.1))],mkS (rtL [⟨0,4,(x3.2.2).map enc_Event⟩] 1),2⟩) (Ffu_la_fin a_6 k_7) ?_ h
 clear h y x3
 intro self ih x3 y h hr hn
 unfold Ffu_la_F at h
 refine c0 5 [6,7] [I (x3.2.1),.hs 1 0 [] 4 0 ((x3.2.2).map enc_Event).length] 34 (by kernel_rfl) ?_
 refine o 50 (I ((len x3.2.2))) rfl rfl (e_len rfl rfl rfl (l_hsM (f:=enc_Event) (xs:=x3.2.2) rfl rfl)) ?_
 refine c0 2 [9] [B ((decide (x3.2.1 < (len x3.2.2))))] 66 (by kernel_rfl) ?_
 refine sc h rfl rfl (fun h=>?_) (fun h=>?_)
 · refine ad 1 rfl ?_
   refine c0 7 [12,13,14] [.hs 1 0 [] 4 0 ((x3.2.2).map enc_Event).length,I (x3.2.1),I (x3.1)] 114 (by kernel_rfl) ?_
   obtain ⟨e4,he4,h⟩:=bS h
   refine o 130 (.hp 1 0 [] 4 (0 + Int.toNat (x3.2.1)) 0) rfl rfl (e_indexAddr rfl rfl rfl (ix_hsM (f:=enc_Event) (xs:=x3.2.2) rfl rfl rfl he4)) ?_
   refine c0 1 [16] [.hp 1 0 [] 4 (0 + Int.toNat (x3.2.1)) 0] 146 (by kernel_rfl) ?_
   refine o0 162 rfl rfl (e_st rfl rfl (st_at (path:=[]) (pl:=true) (e':=.agg [I (x3.1),I (e4.Party),str (e4.Action),I (e4.Amount)]) (es2':=((setI x3.2.2 x3.2.1 (Event.mk x3.1 e4.Party e4.Action e4.Amount))).map enc_Event) rfl (absorb_plain rfl) rfl rfl rfl (ra_n) (get_map (f:=enc_Event) (xs:=x3.2.2) he4) rfl rfl rfl (set_map (f:=enc_Event) (xs:=x3.2.2) (y:=(Event.mk x3.1 e4.Party e4.Action e4.Amount))) (sr_n) 0 rfl)) ?_
   try rw [← len_setM (f:=enc_Event) (xs:=x3.2.2) (i:=x3.2.1) (z:=(Event.mk x3.1 e4.Party e4.Action e4.Amount))]
   refine c0 12 [1,19,20,21] [I ((w64 (x3.1 + 1))),.hs 1 0 [] 4 0 (((setI x3.2.2 x3.2.1 (Event.mk x3.1 e4.Party e4.Action e4.Amount))).map enc_Event).length,I (x3.2.1),I ((w64 (x3.1 + 1)))] 258 (by kernel_rfl) ?_
   obtain ⟨e5,he5,h⟩:=bS h
   refine o 274 (.hp 1 0 [] 4 (0 + Int.toNat (x3.2.1)) 0) rfl rfl (e_indexAddr rfl rfl rfl (ix_hsM (f:=enc_Event) (xs:=(setI x3.2.2 x3.2.1 (Event.mk x3.1 e4.Party e4.Action e4.Amount))) rfl rfl rfl he5)) ?_
   refine c0 1 [23] [.hp 1 0 [] 4 (0 + Int.toNat (x3.2.1)) 1] 290 (by kernel_rfl) ?_
   obtain ⟨w6,hw6⟩ : ∃ w,getI (setI (setI x3.2.2 x3.2.1 (Event.mk x3.1 e4.Party e4.Action e4.Amount)) x3.2.1 (Event.mk e5.Day (w64 (x3.1 + 1)) e5.Action e5.Amount)) x3.2.1=some w:=get_exI (get_set he4)
   refine o0 306 rfl rfl (e_st rfl rfl (st_at (path:=[]) (pl:=true) (e':=.agg [I (e5.Day),I ((w64 (x3.1 + 1))),str (e5.Action),I (e5.Amount)]) (es2':=((setI (setI x3.2.2 x3.2.1 (Event.mk x3.1 e4.Party e4.Action e4.Amount)) x3.2.1 (Event.mk e5.Day (w64 (x3.1 + 1)) e5.Action e5.Amount))).map enc_Event) rfl (absorb_plain rfl) rfl rfl rfl (ra_n) (get_map (f:=enc_Event) (xs:=(setI x3.2.2 x3.2.1 (Event.mk x3.1 e4.Party e4.Action e4.Amount))) he5) rfl rfl rfl (set_map (f:=enc_Event) (xs:=(setI x3.2.2 x3.2.1 (Event.mk x3.1 e4.Party e4.Action e4.Amount))) (y:=(Event.mk e5.Day (w64 (x3.1 + 1)) e5.Action e5.Amount))) (sr_n) 0 rfl)) ?_
   try rw [← len_setM (f:=enc_Event) (xs:=(setI x3.2.2 x3.2.1 (Event.mk x3.1 e4.Party e4.Action e4.Amount))) (i:=x3.2.1) (z:=(Event.mk e5.Day (w64 (x3.1 + 1)) e5.Action e5.Amount))]
   refine c0 12 [1,26,27,28] [I ((w64 ((w64 (x3.1 + 1)) + 1))),.hs 1 0 [] 4 0 (((setI (setI x3.2.2 x3.2.1 (Event.mk x3.1 e4.Party e4.Action e4.Amount)) x3.2.1 (Event.mk e5.Day (w64 (x3.1 + 1)) e5.Action e5.Amount))).map enc_Event).length,I (x3.2.1),I ((w64 ((w64 (x3.1 + 1)) + 1)))] 402 (by kernel_rfl) ?_
   obtain ⟨r7,hr7,h⟩:=bS h
   refine o 418 (str (r7)) rfl rfl (e_callV rfl rfl (call_P rfl rfl rfl (avS (shP rfl) (avN)) (Ffv_F hr7) (.inr rfl) (bl_n) rfl rfl rfl)) ?_
   obtain ⟨e8,he8,h⟩:=bS h
   refine o 434 (.hp 1 0 [] 4 (0 + Int.toNat (x3.2.1)) 0) rfl rfl (e_indexAddr rfl rfl rfl (ix_hsM (f:=enc_Event) (xs:=(setI (setI x3.2.2 x3.2.1 (Event.mk x3.1 e4.Party e4.Action e4.Amount)) x3.2.1 (Event.mk e5.Day (w64 (x3.1 + 1)) e5.Action e5.Amount))) rfl rfl rfl he8)) ?_
   refine c0 1 [31] [.hp 1 0 [] 4 (0 + Int.toNat (x3.2.1)) 2] 450 (by kernel_rfl) ?_
   obtain ⟨w9,hw9⟩ : ∃ w,getI (setI (setI (setI x3.2.2 x3.2.1 (Event.mk x3.1 e4.Party e4.Action e4.Amount)) x3.2.1 (Event.mk e5.Day (w64 (x3.1 + 1)) e5.Action e5.Amount)) x3.2.1 (Event.mk e8.Day e8.Party r7 e8.Amount)) x3.2.1=some w:=get_exI hw6
   obtain ⟨w10,hw10⟩ : ∃ w,getI (setI (setI (setI x3.2.2 x3.2.1 (Event.mk x3.1 e4.Party e4.Action e4.Amount)) x3.2.1 (Event.mk e5.Day (w64 (x3.1 + 1)) e5.Action e5.Amount)) x3.2.1 (Event.mk e8.Day e8.Party r7 e8.Amount)) x3.2.1=some w:=get_exI (get_set he5)
   refine o0 466 rfl rfl (e_st rfl rfl (st_at (path:=[]) (pl:=true) (e':=.agg [I (e8.Day),I (e8.Party),str (r7),I (e8.Amount)]) (es2':=((setI (setI (setI x3.2.2 x3.2.1 (Event.mk x3.1 e4.Party e4.Action e4.Amount)) x3.2.1 (Event.mk e5.Day (w64 (x3.1 + 1)) e5.Action e5.Amount)) x3.2.1 (Event.mk e8.Day e8.Party r7 e8.Amount))).map enc_Event) rfl (absorb_plain rfl) rfl rfl rfl (ra_n) (get_map (f:=enc_Event) (xs:=(setI (setI x3.2.2 x3.2.1 (Event.mk x3.1 e4.Party e4.Action e4.Amount)) x3.2.1 (Event.mk e5.Day (w64 (x3.1 + 1)) e5.Action e5.Amount))) he8) rfl rfl rfl (set_map (f:=enc_Event) (xs:=(setI (setI x3.2.2 x3.2.1 (Event.mk x3.1 e4.Party e4.Action e4.Amount)) x3.2.1 (Event.mk e5.Day (w64 (x3.1 + 1)) e5.Action e5.Amount))) (y:=(Event.mk e8.Day e8.Party r7 e8.Amount))) (sr_n) 0 rfl)) ?_
   try rw [← len_setM (f:=enc_Event) (xs:=(setI (setI x3.2.2 x3.2.1 (Event.mk x3.1 e4.Party e4.Action e4.Amount)) x3.2.1 (Event.mk e5.Day (w64 (x3.1 + 1)) e5.Action e5.Amount))) (i:=x3.2.1) (z:=(Event.mk e8.Day e8.Party r7 e8.Amount))]
   refine c0 12 [1,34,35,36] [I ((w64 ((w64 ((w64 (x3.1 + 1)) + 1)) + 1))),.hs 1 0 [] 4 0 (((setI (setI (setI x3.2.2 x3.2.1 (Event.mk x3.1 e4.Party e4.Action e4.Amount)) x3.2.1 (Event.mk e5.Day (w64 (x3.1 + 1)) e5.Action e5.Amount)) x3.2.1 (Event.mk e8.Day e8.Party r7 e8.Amount))).map enc_Event).length,I (x3.2.1),I ((w64 ((w64 ((w64 (x3.1 + 1)) + 1)) + 1)))] 562 (by kernel_rfl) ?_
   obtain ⟨e11,he11,h⟩:=bS h
   refine o 578 (.hp 1 0 [] 4 (0 + Int.toNat (x3.2.1)) 0) rfl rfl (e_indexAddr rfl rfl rfl (ix_hsM (f:=enc_Event) (xs:=(setI (setI (setI x3.2.2 x3.2.1 (Event.mk x3.1 e4.Party e4.Action e4.Amount)) x3.2.1 (Event.mk e5.Day (w64 (x3.1 + 1)) e5.Action e5.Amount)) x3.2.1 (Event.mk e8.Day e8.Party r7 e8.Amount))) rfl rfl rfl he11)) ?_
   refine c0 1 [38] [.hp 1 0 [] 4 (0 + Int.toNat (x3.2.1)) 3] 594 (by kernel_rfl) ?_
   obtain ⟨w12,hw12⟩ : ∃ w,getI (setI (setI (setI (setI x3.2.2 x3.2.1 (Event.mk x3.1 e4.Party e4.Action e4.Amount)) x3.2.1 (Event.mk e5.Day (w64 (x3.1 + 1)) e5.Action e5.Amount)) x3.2.1 (Event.mk e8.Day e8.Party r7 e8.Amount)) x3.2.1 (Event.mk e11.Day e11.Party e11.Action (w64 ((w64 ((w64 (x3.1 + 1)) + 1)) + 1)))) x3.2.1=some w:=get_exI hw9
   obtain ⟨w13,hw13⟩ : ∃ w,getI (setI (setI (setI (setI x3.2.2 x3.2.1 (Event.mk x3.1 e4.Party e4.Action e4.Amount)) x3.2.1 (Event.mk e5.Day (w64 (x3.1 + 1)) e5.Action e5.Amount)) x3.2.1 (Event.mk e8.Day e8.Party r7 e8.Amount)) x3.2.1 (Event.mk e11.Day e11.Party e11.Action (w64 ((w64 ((w64 (x3.1 + 1)) + 1)) + 1)))) x3.2.1=some w:=get_exI hw10
   obtain ⟨w14,hw14⟩ : ∃ w,getI (setI (setI (setI (setI x3.2.2 x3.2.1 (Event.mk x3.1 e4.Party e4.Action e4.Amount)) x3.2.1 (Event.mk e5.Day (w64 (x3.1 + 1)) e5.Action e5.Amount)) x3.2.1 (Event.mk e8.Day e8.Party r7 e8.Amount)) x3.2.1 (Event.mk e11.Day e11.Party e11.Action (w64 ((w64 ((w64 (x3.1 + 1)) + 1)) + 1)))) x3.2.1=some w:=get_exI (get_set he8)
   refine o0 610 rfl rfl (e_st rfl rfl (st_at (path:=[]) (pl:=true) (e':=.agg [I (e11.Day),I (e11.Party),str (e11.Action),I ((w64 ((w64 ((w64 (x3.1 + 1)) + 1)) + 1)))]) (es2':=((setI (setI (setI (setI x3.2.2 x3.2.1 (Event.mk x3.1 e4.Party e4.Action e4.Amount)) x3.2.1 (Event.mk e5.Day (w64 (x3.1 + 1)) e5.Action e5.Amount)) x3.2.1 (Event.mk e8.Day e8.Party r7 e8.Amount)) x3.2.1 (Event.mk e11.Day e11.Party e11.Action (w64 ((w64 ((w64 (x3.1 + 1)) + 1)) + 1))))).map enc_Event) rfl (absorb_plain rfl) rfl rfl rfl (ra_n) (get_map (f:=enc_Event) (xs:=(setI (setI (setI x3.2.2 x3.2.1 (Event.mk x3.1 e4.Party e4.Action e4.Amount)) x3.2.1 (Event.mk e5.Day (w64 (x3.1 + 1)) e5.Action e5.Amount)) x3.2.1 (Event.mk e8.Day e8.Party r7 e8.Amount))) he11) rfl rfl rfl (set_map (f:=enc_Event) (xs:=(setI (setI (setI x3.2.2 x3.2.1 (Event.mk x3.1 e4.Party e4.Action e4.Amount)) x3.2.1 (Event.mk e5.Day (w64 (x3.1 + 1)) e5.Action e5.Amount)) x3.2.1 (Event.mk e8.Day e8.Party r7 e8.Amount))) (y:=(Event.mk e11.Day e11.Party e11.Action (w64 ((w64 ((w64 (x3.1 + 1)) + 1)) + 1))))) (sr_n) 0 rfl)) ?_
   try rw [← len_setM (f:=enc_Event) (xs:=(setI (setI (setI x3.2.2 x3.2.1 (Event.mk x3.1 e4.Party e4.Action e4.Amount)) x3.2.1 (Event.mk e5.Day (w64 (x3.1 + 1)) e5.Action e5.Amount)) x3.2.1 (Event.mk e8.Day e8.Party r7 e8.Amount))) (i:=x3.2.1) (z:=(Event.mk e11.Day e11.Party e11.Action (w64 ((w64 ((w64 (x3.1 + 1)) + 1)) + 1))))]
   refine c0 12 [1,5] [I ((w64 ((w64 ((w64 ((w64 (x3.1 + 1)) + 1)) + 1)) + 1))),I ((w64 (x3.2.1 + 1)))] 706 (by kernel_rfl) ?_
   refine s_lp ?_
   refine run_forget [0,1,5] [1] [⟨0,4,((setI (setI (setI (setI x3.2.2 x3.2.1 (Event.mk x3.1 e4.Party e4.Action e4.Amount)) x3.2.1 (Event.mk e5.Day (w64 (x3.1 + 1)) e5.Action e5.Amount)) x3.2.1 (Event.mk e8.Day e8.Party r7 e8.Amount)) x3.2.1 (Event.mk e11.Day e11.Party e11.Action (w64 ((w64 ((w64 (x3.1 + 1)) + 1)) + 1))))).map enc_Event⟩] rfl rfl rfl rfl ?_
   exact ih _ _ h hr hn
 · refine ad 1 rfl ?_
   refine run_forget [1] [1] [⟨0,4,(x3.2.2).map enc_Event⟩] rfl rfl rfl hK ?_
   exact hn _ (Option.some.inj h).symm
theorem Ffu_run (a_6 : List Event) (k_7 : Int) (r : Int × (List Event)) (h : Ffu a_6 k_7=some r) : RunF Ffu_E Tryd.f22 [true,false] 1 (Ffu_A (a_6,k_7)) (Ffu_R r):=by
 show Run _ _ (Ffu_Q (a_6,k_7) r) [.code Ffu_c] _
 refine rin (n:=42) [(0,.hs 1 0 [] 4 0 ((a_6).map enc_Event).length),(1,I (k_7))] [(1,some ⟨0,4,(a_6).map enc_Event⟩)] 2 (by kernel_rfl) (by kernel_rfl) (by kernel_rfl) rfl ?_
 unfold Ffu at h
 refine c0 10 [5] [I (0)] 34 (by kernel_rfl) ?_
 obtain ⟨y15,hy15,hy151,hy152⟩:=bJ h
 refine s_loop rfl ?_
 refine run_forget [0,1,5] [1] [⟨0,4,(a_6).map enc_Event⟩] rfl rfl rfl rfl ?_
 refine Ffu_la_run a_6 k_7 rfl hy15 (fun r' e st hq=>by rw [hy151 r' e] at hq; exact hq) (fun u15 hu=>?_)
 replace h:=hy152 u15 hu
 refine c0 5 [4] [I (u15.1)] 34 (by kernel_rfl) ?_
 obtain ⟨g16,h⟩:=gG h
 obtain rfl:=Option.some.inj h
 exact s_ret rfl ⟨_,fin (vs:=[I (u15.1)]) rfl (absE (absorb_plain rfl) (absEN)) rfl (ou_1 rfl (oc_hsG (f:=enc_Event) (xs:=u15.2) (by simpa using g16) rfl) (ou_f (ou_n))),kl_c (kl_n)⟩
theorem Ffu_good {G : Go.Ln.Ground} : Good Tryd.prog G 22 Ffu_ent:=good_T (fnOf_good (gl_c Ffv_good (gl_n))) agree_mk (Checked.mixed Tryd.checked) Tryd.func22 (n:=2) (m:=1) ⟨rfl,rfl,by decide⟩ (fun _=>⟨rfl,rfl⟩) (fun a r h=>Ffu_run a.1 a.2 r h)
def Fft_A : ((List Event) × Int)→List V:=cA (slE enc_Event) (oA I)
def Fft_R (r : Int) : V × List V:=(I (r),[])
noncomputable def Fft_ent : Ent:=entT [false,false] Fft_A Fft_R fun x=>Fft x.1 x.2
theorem Fft_F {a_1 : List Event} {k_2 : Int} {r} (h : Fft a_1 k_2=some r) : (Fft_ent).F (Fft_A (a_1,k_2))=some (Fft_R r):=entT_F (cA_inj (isl_inj enc_Event_inj) (oA_inj I_inj)) h
noncomputable def Fft_c : Code:=bodyOf Tryd.f23
noncomputable def Fft_E : Env:=mkE Tryd.prog [(57,Ffv_ent)]
def Fft_Q (x : (List Event) × Int) (r : Int) : St→Prop:=QF Fft_E Tryd.f23 [false,false] (Fft_A x) (Fft_R r)
theorem Fft_la_run (a_1 : List Event) (k_2 : Int)  {Q : St→Prop} {K : List It} (hK : noD K=true) {x3 : Int × Int} {y : Int ⊕ Int} (h : Fft_la a_1 k_2 x3=some y) : (∀ r',y=.inl r'→∀ st,Fft_Q (a_1,k_2) r' st→Q st)→(∀ u : Int,y=.inr u→Run Fft_E 0 Q K ⟨mkTm .dead 50 [(1,I (u))],mkS (rtL [] 1),1⟩)→Run Fft_E 0 Q (.code (cL (cL (cR (cL (cR Fft_c))))) :: .lp (cL (cL (cR (cL (cR Fft_c))))) :: .blk 0 :: K) ⟨mkTm .dead 50 [(0,.isl false ((a_1).map enc_Event)),(1,I (x3.1)),(5,I (x3.2))],mkS (rtL [] 1),1⟩:=by
 refine fix_ind (P:=fun (x3 : Int × Int) (y : Int ⊕ Int)=>(∀ r',y=.inl r'→∀ st,Fft_Q (a_1,k_2) r' st→Q st)→(∀ u : Int,y=.inr u→Run Fft_E 0 Q K ⟨mkTm .dead 50 [(1,I (u))],mkS (rtL [] 1),1⟩)→Run Fft_E 0 Q (.code (cL (cL (cR (cL (cR Fft_c))))) :: .lp (cL (cL (cR (cL (cR Fft_c))))) :: .blk 0 :: K) ⟨mkTm .dead 50 [(0,.isl false ((a_1).map enc_Event)),(1,I (x3.1)),(5,I (x3.2))],mkS (rtL [] 1),1⟩) (Fft_la_fin a_1 k_2) ?_ h
 clear h y x3
 intro self ih x3 y h hr hn
 unfold Fft_la_F at h
 refine c0 5 [6,7] [I (x3.2),.isl false ((a_1).map enc_Event)] 33 (by kernel_rfl) ?_
 refine o 49 (I ((len a_1))) rfl rfl (e_len rfl rfl rfl (l_isl rfl)) ?_
 refine c0 2 [9] [B ((decide (x3.2 < (len a_1))))] 65 (by kernel_rfl) ?_
 refine sc h rfl rfl (fun h=>?_) (fun h=>?_)
 · refine ad 1 rfl ?_
   refine c0 7 [12,13] [.isl false ((a_1).map enc_Event),I (x3.2)] 97 (by kernel_rfl) ?_
   obtain ⟨e4,he4,h⟩:=bS h
   refine o 113 (.iptr (enc_Event e4) 0) rfl rfl (e_indexAddr rfl rfl rfl (ix_islE rfl rfl rfl rfl he4)) ?_
   refine c0 5 [18] [B ((e4.Day != x3.1))] 177 (by kernel_rfl) ?_
   refine sc h rfl rfl (fun h=>?_) (fun h=>?_)
   · refine c0 4 [4] [I ((-1))] 193 (by kernel_rfl) ?_
     exact s_ret rfl (hr _ (Option.some.inj h).symm _ ⟨_,fin (vs:=[I ((-1))]) rfl (absE (absorb_plain rfl) (absEN)) rfl (ou_f (ou_f (ou_n))),kl_n⟩)
   · refine ad 1 rfl ?_
     refine c0 11 [1,21,22] [I ((w64 (x3.1 + 1))),.isl false ((a_1).map enc_Event),I (x3.2)] 257 (by kernel_rfl) ?_
     obtain ⟨e5,he5,h⟩:=bS h
     refine o 273 (.iptr (enc_Event e5) 0) rfl rfl (e_indexAddr rfl rfl rfl (ix_islE rfl rfl rfl rfl he5)) ?_
     refine c0 5 [27] [B ((e5.Party != (w64 (x3.1 + 1))))] 337 (by kernel_rfl) ?_
     refine sc h rfl rfl (fun h=>?_) (fun h=>?_)
     · refine c0 4 [4] [I ((-1))] 353 (by kernel_rfl) ?_
       exact s_ret rfl (hr _ (Option.some.inj h).symm _ ⟨_,fin (vs:=[I ((-1))]) rfl (absE (absorb_plain rfl) (absEN)) rfl (ou_f (ou_f (ou_n))),kl_n⟩)
     · refine ad 1 rfl ?_
       refine c0 8 [1] [I ((w64 ((w64 (x3.1 + 1)) + 1)))] 385 (by kernel_rfl) ?_
       refine s_draw [0,0,3,7,15,0,32,127] rfl (by decide +kernel) ?_
       refine dp [] [] (.isl false ((a_1).map enc_Event)) rfl (e_move rfl) rfl (rfl) (by decide) ?_
       refine dp [] [] (I (x3.2)) rfl (e_move rfl) rfl (rfl) (by decide) ?_
       obtain ⟨e6,he6,h⟩:=bS h
       refine dp [] [] (.iptr (enc_Event e6) 0) rfl (e_indexAddr rfl rfl rfl (ix_islE rfl rfl rfl rfl he6)) rfl (rfl) (by decide) ?_
       refine dp [] [] (.iptr (enc_Event e6) 2) rfl (e_fieldAddr rfl rfl rfl) rfl (rfl) (by decide) ?_
       refine dp [] [] (str (e6.Action)) rfl (e_ld rfl rfl) rfl (rfl) (by decide) ?_
       refine dp [] [] (I ((w64 ((w64 (x3.1 + 1)) + 1)))) rfl (e_move rfl) rfl (rfl) (by decide) ?_
       obtain ⟨r7,hr7,h⟩:=bS h
       refine dp [] [] (str (r7)) rfl (e_callV rfl rfl (call_P rfl rfl rfl (avS (shP rfl) (avN)) (Ffv_F hr7) (.inr rfl) (bl_n) rfl rfl rfl)) rfl (w_callO rfl rfl rfl rfl (avS (shP rfl) (avN)) (Ffv_F hr7) (.inr rfl) rfl) (by decide) ?_
       refine dp [] [] (B ((!(e6.Action == r7)))) rfl (e_bin rfl rfl rfl) rfl (rfl) (by decide) ?_
       refine de 513 rfl rfl ?_
       refine sc h rfl rfl (fun h=>?_) (fun h=>?_)
       · refine c0 4 [4] [I ((-1))] 529 (by kernel_rfl) ?_
         exact s_ret rfl (hr _ (Option.some.inj h).symm _ ⟨_,fin (vs:=[I ((-1))]) rfl (absE (absorb_plain rfl) (absEN)) rfl (ou_f (ou_f (ou_n))),kl_n⟩)
       · refine ad 1 rfl ?_
         refine c0 11 [1,40,41] [I ((w64 ((w64 ((w64 (x3.1 + 1)) + 1)) + 1))),.isl false ((a_1).map enc_Event),I (x3.2)] 593 (by kernel_rfl) ?_
         obtain ⟨e8,he8,h⟩:=bS h
         refine o 609 (.iptr (enc_Event e8) 0) rfl rfl (e_indexAddr rfl rfl rfl (ix_islE rfl rfl rfl rfl he8)) ?_
         refine c0 5 [46] [B ((e8.Amount != (w64 ((w64 ((w64 (x3.1 + 1)) + 1)) + 1))))] 673 (by kernel_rfl) ?_
         refine sc h rfl rfl (fun h=>?_) (fun h=>?_)
         · refine c0 4 [4] [I ((-1))] 689 (by kernel_rfl) ?_
           exact s_ret rfl (hr _ (Option.some.inj h).symm _ ⟨_,fin (vs:=[I ((-1))]) rfl (absE (absorb_plain rfl) (absEN)) rfl (ou_f (ou_f (ou_n))),kl_n⟩)
         · refine ad 1 rfl ?_
           refine c0 11 [1,5] [I ((w64 ((w64 ((w64 ((w64 (x3.1 + 1)) + 1)) + 1)) + 1))),I ((w64 (x3.2 + 1)))] 769 (by kernel_rfl) ?_
           refine s_lp ?_
           refine run_forget [0,1,5] [] [] rfl rfl rfl rfl ?_
           exact ih _ _ h hr hn
 · refine ad 1 rfl ?_
   refine run_forget [1] [] [] rfl rfl rfl hK ?_
   exact hn _ (Option.some.inj h).symm
theorem Fft_run (a_1 : List Event) (k_2 : Int) (r : Int) (h : Fft a_1 k_2=some r) : RunF Fft_E Tryd.f23 [false,false] 0 (Fft_A (a_1,k_2)) (Fft_R r):=by
 show Run _ _ (Fft_Q (a_1,k_2) r) [.code Fft_c] _
 refine rin (n:=50) [(0,.isl false ((a_1).map enc_Event)),(1,I (k_2))] [] 1 (by kernel_rfl) (by kernel_rfl) (by kernel_rfl) rfl ?_
 unfold Fft at h
 refine c0 10 [5] [I (0)] 33 (by kernel_rfl) ?_
 obtain ⟨y9,hy9,hy91,hy92⟩:=bJ h
 refine s_loop rfl ?_
 refine run_forget [0,1,5] [] [] rfl rfl rfl rfl ?_
 refine Fft_la_run a_1 k_2 rfl hy9 (fun r' e st hq=>by rw [hy91 r' e] at hq; exact hq) (fun u9 hu=>?_)
 replace h:=hy92 u9 hu
 refine c0 5 [4] [I (u9)] 33 (by kernel_rfl) ?_
 obtain rfl:=Option.some.inj h
 exact s_ret rfl ⟨_,fin (vs:=[I (u9)]) rfl (absE (absorb_plain rfl) (absEN)) rfl (ou_f (ou_f (ou_n))),kl_n⟩
theorem Fft_good {G : Go.Ln.Ground} : Good Tryd.prog G 23 Fft_ent:=good_T (fnOf_good (gl_c Ffv_good (gl_n))) agree_mk (Checked.mixed Tryd.checked) Tryd.func23 (n:=2) (m:=0) ⟨rfl,rfl,by decide⟩ (fun _=>⟨rfl,rfl⟩) (fun a r h=>Fft_run a.1 a.2 r h)
def laws_FnExactMergeEvents_A : ((List Event) × (List Event) × Int)→List V:=cA (slE enc_Event) (cA (slE enc_Event) (oA I))
def laws_FnExactMergeEvents_R (r : Bool) : V × List V:=(B (r),[])
noncomputable def laws_FnExactMergeEvents_ent : Ent:=entT [false,false,false] laws_FnExactMergeEvents_A laws_FnExactMergeEvents_R fun x=>laws_FnExactMergeEvents x.1 x.2.1 x.2.2
theorem laws_FnExactMergeEvents_F {aA_1 : List Event} {aB_2 : List Event} {aParties_3 : Int} {r} (h : laws_FnExactMergeEvents aA_1 aB_2 aParties_3=some r) : (laws_FnExactMergeEvents_ent).F (laws_FnExactMergeEvents_A (aA_1,aB_2,aParties_3))=some (laws_FnExactMergeEvents_R r):=entT_F (cA_inj (isl_inj enc_Event_inj) (cA_inj (isl_inj enc_Event_inj) (oA_inj I_inj))) h
noncomputable def laws_FnExactMergeEvents_c : Code:=bodyOf Tryd.f10
noncomputable def laws_FnExactMergeEvents_E : Env:=mkE Tryd.prog [(13,Ffx_ent),(15,Ffz_ent),(40,Ffby_ent),(41,Ffi_ent),(17,Ffs_ent),(22,Ffu_ent),(23,Fft_ent)]
def laws_FnExactMergeEvents_Q (x : (List Event) × (List Event) × Int) (r : Bool) : St→Prop:=QF laws_FnExactMergeEvents_E Tryd.f10 [false,false,false] (laws_FnExactMergeEvents_A x) (laws_FnExactMergeEvents_R r)
theorem laws_FnExactMergeEvents_run (aA_1 : List Event) (aB_2 : List Event) (aParties_3 : Int) (r : Bool) (h : laws_FnExactMergeEvents aA_1 aB_2 aParties_3=some r) : RunF laws_FnExactMergeEvents_E Tryd.f10 [false,false,false] 0 (laws_FnExactMergeEvents_A (aA_1,aB_2,aParties_3)) (laws_FnExactMergeEvents_R r):=by
 show Run _ _ (laws_FnExactMergeEvents_Q (aA_1,aB_2,aParties_3) r) [.code laws_FnExactMergeEvents_c] _
 refine rin (n:=124) [(0,.isl false ((aA_1).map enc_Event)),(1,.isl false ((aB_2).map enc_Event)),(2,I (aParties_3))] [] 1 (by kernel_rfl) (by kernel_rfl) (by kernel_rfl) rfl ?_
 unfold laws_FnExactMergeEvents at h
 refine c0 12 [19,20] [.isl false ((aA_1).map enc_Event),I (1048576)] 65 (by kernel_rfl) ?_
 obtain ⟨r4,hr4,h⟩:=bS h
 refine o 81 (I (r4)) rfl rfl (e_callV rfl rfl (call_P rfl rfl rfl (avS (shP rfl) (avS (shP rfl) (avN))) (Ffx_F hr4) (.inr rfl) (bl_n) rfl rfl rfl)) ?_
 refine c0 8 [7,23] [I (r4),B ((decide (r4 < 0)))] 129 (by kernel_rfl) ?_
 refine sc h rfl rfl (fun h=>?_) (fun h=>?_)
 · refine c0 4 [6] [B (true)] 145 (by kernel_rfl) ?_
   obtain rfl:=Option.some.inj h
   exact s_ret rfl ⟨_,fin (vs:=[B (true)]) rfl (absE (absorb_plain rfl) (absEN)) rfl (ou_f (ou_f (ou_f (ou_n)))),kl_n⟩
 · refine ad 1 rfl ?_
   refine c0 4 [24,25] [.isl false ((aB_2).map enc_Event),I (r4)] 161 (by kernel_rfl) ?_
   obtain ⟨r5,hr5,h⟩:=bS h
   refine o 177 (I (r5)) rfl rfl (e_callV rfl rfl (call_P rfl rfl rfl (avS (shP rfl) (avS (shP rfl) (avN))) (Ffx_F hr5) (.inr rfl) (bl_n) rfl rfl rfl)) ?_
   refine ck 8 [28] [7] [] [] [B ((decide (r5 < 0)))] [] 225 (by kernel_rfl) ?_
   refine sc h rfl rfl (fun h=>?_) (fun h=>?_)
   · refine c0 4 [6] [B (true)] 241 (by kernel_rfl) ?_
     obtain rfl:=Option.some.inj h
     exact s_ret rfl ⟨_,fin (vs:=[B (true)]) rfl (absE (absorb_plain rfl) (absEN)) rfl (ou_f (ou_f (ou_f (ou_n)))),kl_n⟩
   · refine ad 1 rfl ?_
     refine c0 3 [30] [.isl false ((aA_1).map enc_Event)] 241 (by kernel_rfl) ?_
     obtain ⟨r6,hr6,h⟩:=bS h
     refine o 257 (.hs 241 0 [] 4 0 ((r6).map enc_Event).length) rfl rfl (e_callV rfl rfl (call_P rfl rfl rfl (avS (shP rfl) (avN)) (Ffz_F hr6) (.inr rfl) (bl_n) rfl rfl rfl)) ?_
     refine c0 1 [32] [.isl false ((aB_2).map enc_Event)] 273 (by kernel_rfl) ?_
     obtain ⟨r7,hr7,h⟩:=bS h
     refine o 289 (.hs 273 0 [] 4 0 ((r7).map enc_Event).length) rfl rfl (e_callV rfl rfl (call_P rfl rfl rfl (avS (shP rfl) (avN)) (Ffz_F hr7) (.inr rfl) (bl_n) rfl rfl rfl)) ?_
     refine c0 1 [34] [I (aParties_3)] 305 (by kernel_rfl) ?_
     obtain ⟨r8,hr8,h⟩:=bS h
     refine o 321 (.tup [.hs 305 0 [] 4 0 ((r8.1).map enc_Event).length,B (r8.2)]) rfl rfl (e_callV rfl rfl (call_P rfl rfl rfl (avS (sh1 rfl rfl (sh_hsM (f:=enc_Event) (g:=enc_Event) (xs:=r6) rfl rfl (imms_of enc_Event_imm))) (avS (sh1 rfl rfl (sh_hsM (f:=enc_Event) (g:=enc_Event) (xs:=r7) rfl rfl (imms_of enc_Event_imm))) (avS (shP rfl) (avN)))) (Ffby_F hr8) (.inl (by simp [hasImm,hasImms,str,himm_map (f:=enc_Event) enc_Event_himm])) (bl_n) rfl rfl rfl)) ?_
     refine c0 9 [8,9,38] [.hs 305 0 [] 4 0 ((r8.1).map enc_Event).length,B (r8.2),.isl false ((aA_1).map enc_Event)] 417 (by kernel_rfl) ?_
     obtain ⟨r9,hr9,h⟩:=bS h
     refine o 433 (.hs 417 0 [] 4 0 ((r9).map enc_Event).length) rfl rfl (e_callV rfl rfl (call_P rfl rfl rfl (avS (shP rfl) (avN)) (Ffz_F hr9) (.inr rfl) (bl_n) rfl rfl rfl)) ?_
     refine c0 5 [10,40] [.hs 417 0 [] 4 0 ((r9).map enc_Event).length,.isl false ((aB_2).map enc_Event)] 465 (by kernel_rfl) ?_
     obtain ⟨r10,hr10,h⟩:=bS h
     refine o 481 (.hs 465 0 [] 4 0 ((r10).map enc_Event).length) rfl rfl (e_callV rfl rfl (call_P rfl rfl rfl (avS (shP rfl) (avN)) (Ffz_F hr10) (.inr rfl) (bl_n) rfl rfl rfl)) ?_
     refine c0 7 [11,43,44,45] [.hs 465 0 [] 4 0 ((r10).map enc_Event).length,.hs 417 0 [] 4 0 ((r9).map enc_Event).length,.hs 465 0 [] 4 0 ((r10).map enc_Event).length,I (aParties_3)] 545 (by kernel_rfl) ?_
     obtain ⟨r11,hr11,h⟩:=bS h
     refine o 561 (.tup [.hs 545 0 [] 4 0 ((r11.1).map enc_Event).length,B (r11.2)]) rfl rfl (e_callV rfl rfl (call_P rfl rfl rfl (avS (sh1 rfl rfl (sh_hsM (f:=enc_Event) (g:=enc_Event) (xs:=r9) rfl rfl (imms_of enc_Event_imm))) (avS (sh1 rfl rfl (sh_hsM (f:=enc_Event) (g:=enc_Event) (xs:=r10) rfl rfl (imms_of enc_Event_imm))) (avS (shP rfl) (avN)))) (Ffi_F hr11) (.inl (by simp [hasImm,hasImms,str,himm_map (f:=enc_Event) enc_Event_himm])) (bl_n) rfl rfl rfl)) ?_
     refine c0 11 [12,13,49,50] [.hs 545 0 [] 4 0 ((r11.1).map enc_Event).length,B (r11.2),.hs 545 0 [] 4 0 ((r11.1).map enc_Event).length,.hs 305 0 [] 4 0 ((r8.1).map enc_Event).length] 673 (by kernel_rfl) ?_
     obtain ⟨r12,hr12,h⟩:=bS h
     refine o 689 (B (r12)) rfl rfl (e_callV rfl rfl (call_P rfl rfl rfl (avS (sh1 rfl rfl (sh_hsM (f:=enc_Event) (g:=enc_Event) (xs:=r11.1) rfl rfl (imms_of enc_Event_imm))) (avS (sh1 rfl rfl (sh_hsM (f:=enc_Event) (g:=enc_Event) (xs:=r8.1) rfl rfl (imms_of enc_Event_imm))) (avN))) (Ffs_F hr12) (.inl (rfl)) (bl_n) rfl rfl rfl)) ?_
     refine c0 2 [53] [B ((!r12))] 721 (by kernel_rfl) ?_
     obtain ⟨u13,hu13,h⟩:=lJ h
     have j13 : Run laws_FnExactMergeEvents_E 0 (laws_FnExactMergeEvents_Q (aA_1,aB_2,aParties_3) r) (.code (cR (cL (cR (cR (cR (cR (cR (cR (cR (cR (cR (cR laws_FnExactMergeEvents_c)))))))))))) :: .code (cR (cR (cR (cR (cR (cR (cR (cR (cR (cR (cR laws_FnExactMergeEvents_c))))))))))) :: []) ⟨mkTm .dead 124 [(0,.isl false ((aA_1).map enc_Event)),(1,.isl false ((aB_2).map enc_Event)),(2,I (aParties_3)),(8,.hs 1 0 [] 4 0 ((r8.1).map enc_Event).length),(9,B (r8.2)),(10,.hs 2 0 [] 4 0 ((r9).map enc_Event).length),(11,.hs 3 0 [] 4 0 ((r10).map enc_Event).length),(12,.hs 4 0 [] 4 0 ((r11.1).map enc_Event).length),(13,B (r11.2)),(57,B (u13))],mkS (rtL [⟨0,4,(r8.1).map enc_Event⟩,⟨0,4,(r9).map enc_Event⟩,⟨0,4,(r10).map enc_Event⟩,⟨0,4,(r11.1).map enc_Event⟩] 1),5⟩:=by
       refine sc h rfl rfl (fun h=>?_) (fun h=>?_)
       · refine c0 4 [6] [B (false)] 21 (by kernel_rfl) ?_
         obtain rfl:=Option.some.inj h
         exact s_ret rfl ⟨_,fin (vs:=[B (false)]) rfl (absE (absorb_plain rfl) (absEN)) rfl (ou_f (ou_f (ou_f (ou_n)))),kl_n⟩
       · refine ad 1 rfl ?_
         refine c0 5 [58,59] [.hs 2 0 [] 4 0 ((r9).map enc_Event).length,.isl false ((aA_1).map enc_Event)] 37 (by kernel_rfl) ?_
         obtain ⟨r14,hr14,h⟩:=bS h
         refine o 53 (.hs 37 0 [] 4 0 ((r14).map enc_Event).length) rfl rfl (e_callV rfl rfl (call_P rfl rfl rfl (avS (shP rfl) (avN)) (Ffz_F hr14) (.inr rfl) (bl_n) rfl rfl rfl)) ?_
         obtain ⟨r15,hr15,h⟩:=bS h
         refine o 69 (B (r15)) rfl rfl (e_callV rfl rfl (call_P rfl rfl rfl (avS (sh1 rfl rfl (sh_hsM (f:=enc_Event) (g:=enc_Event) (xs:=r9) rfl rfl (imms_of enc_Event_imm))) (avS (sh1 rfl rfl (sh_hsM (f:=enc_Event) (g:=enc_Event) (xs:=r14) rfl rfl (imms_of enc_Event_imm))) (avN))) (Ffs_F hr15) (.inl (rfl)) (bl_n) rfl rfl rfl)) ?_
         refine c0 2 [62] [B ((!r15))] 85 (by kernel_rfl) ?_
         refine sc h rfl rfl (fun h=>?_) (fun h=>?_)
         · refine c0 4 [6] [B (false)] 101 (by kernel_rfl) ?_
           obtain rfl:=Option.some.inj h
           exact s_ret rfl ⟨_,fin (vs:=[B (false)]) rfl (absE (absorb_plain rfl) (absEN)) rfl (ou_f (ou_f (ou_f (ou_n)))),kl_n⟩
         · refine ad 1 rfl ?_
           refine c0 5 [63,64] [.hs 3 0 [] 4 0 ((r10).map enc_Event).length,.isl false ((aB_2).map enc_Event)] 117 (by kernel_rfl) ?_
           obtain ⟨r16,hr16,h⟩:=bS h
           refine o 133 (.hs 117 0 [] 4 0 ((r16).map enc_Event).length) rfl rfl (e_callV rfl rfl (call_P rfl rfl rfl (avS (shP rfl) (avN)) (Ffz_F hr16) (.inr rfl) (bl_n) rfl rfl rfl)) ?_
           obtain ⟨r17,hr17,h⟩:=bS h
           refine o 149 (B (r17)) rfl rfl (e_callV rfl rfl (call_P rfl rfl rfl (avS (sh1 rfl rfl (sh_hsM (f:=enc_Event) (g:=enc_Event) (xs:=r10) rfl rfl (imms_of enc_Event_imm))) (avS (sh1 rfl rfl (sh_hsM (f:=enc_Event) (g:=enc_Event) (xs:=r16) rfl rfl (imms_of enc_Event_imm))) (avN))) (Ffs_F hr17) (.inl (rfl)) (bl_n) rfl rfl rfl)) ?_
           refine c0 2 [67] [B ((!r17))] 165 (by kernel_rfl) ?_
           refine sc h rfl rfl (fun h=>?_) (fun h=>?_)
           · refine c0 4 [6] [B (false)] 181 (by kernel_rfl) ?_
             obtain rfl:=Option.some.inj h
             exact s_ret rfl ⟨_,fin (vs:=[B (false)]) rfl (absE (absorb_plain rfl) (absEN)) rfl (ou_f (ou_f (ou_f (ou_n)))),kl_n⟩
           · refine ad 1 rfl ?_
             refine c0 8 [68,69] [.hs 2 0 [] 4 0 ((r9).map enc_Event).length,I (1)] 213 (by kernel_rfl) ?_
             obtain ⟨r18,hr18,h⟩:=bS h
             obtain ⟨g19,h⟩:=gG h
             refine o 229 (I (r18.1)) rfl rfl (e_callV rfl rfl (call_P rfl rfl rfl (avO (hd1 rfl (hd_hs (path:=[]) rfl rfl (ra_n) rfl)) (avS (shP rfl) (avN))) (Ffu_F hr18) (.inr rfl) (bl_c rfl rfl rfl rfl (bl_n)) rfl rfl rfl)) ?_
             try rw [len_eqM (f:=enc_Event) (xs:=r9) (ys:=r18.2) g19]
             refine c0 6 [71,72] [.hs 3 0 [] 4 0 ((r10).map enc_Event).length,I (r18.1)] 277 (by kernel_rfl) ?_
             obtain ⟨r20,hr20,h⟩:=bS h
             obtain ⟨g21,h⟩:=gG h
             refine o 293 (I (r20.1)) rfl rfl (e_callV rfl rfl (call_P rfl rfl rfl (avO (hd1 rfl (hd_hs (path:=[]) rfl rfl (ra_n) rfl)) (avS (shP rfl) (avN))) (Ffu_F hr20) (.inr rfl) (bl_c rfl rfl rfl rfl (bl_n)) rfl rfl rfl)) ?_
             try rw [len_eqM (f:=enc_Event) (xs:=r10) (ys:=r20.2) g21]
             refine c0 8 [76] [B ((decide (r20.1 < 0)))] 357 (by kernel_rfl) ?_
             obtain ⟨y22,hy22,hy221,hy222⟩:=bJ h
             have j22 : ∀ u22,y22=.inr u22→Run laws_FnExactMergeEvents_E 0 (laws_FnExactMergeEvents_Q (aA_1,aB_2,aParties_3) r) (.code (cR (cL (cR (cR (cR (cR (cR (cR (cR (cR (cR (cR (cR (cR (cR (cR (cR (cR laws_FnExactMergeEvents_c)))))))))))))))))) :: .code (cR (cR (cR (cR (cR (cR (cR (cR (cR (cR (cR (cR (cR (cR (cR (cR (cR laws_FnExactMergeEvents_c))))))))))))))))) :: []) ⟨mkTm .dead 124 [(0,.isl false ((aA_1).map enc_Event)),(1,.isl false ((aB_2).map enc_Event)),(2,I (aParties_3)),(8,.hs 1 0 [] 4 0 ((r8.1).map enc_Event).length),(9,B (r8.2)),(12,.hs 2 0 [] 4 0 ((r11.1).map enc_Event).length),(86,B (u22))],mkS (rtL [⟨0,4,(r8.1).map enc_Event⟩,⟨0,4,(r11.1).map enc_Event⟩] 1),3⟩:=by
               intro u22 hu
               replace h:=hy222 u22 hu
               refine sc h rfl rfl (fun h=>?_) (fun h=>?_)
               · refine c0 4 [6] [B (false)] 19 (by kernel_rfl) ?_
                 obtain rfl:=Option.some.inj h
                 exact s_ret rfl ⟨_,fin (vs:=[B (false)]) rfl (absE (absorb_plain rfl) (absEN)) rfl (ou_f (ou_f (ou_f (ou_n)))),kl_n⟩
               · refine ad 1 rfl ?_
                 refine c0 8 [87,88] [.hs 2 0 [] 4 0 ((r11.1).map enc_Event).length,I (1)] 51 (by kernel_rfl) ?_
                 obtain ⟨r23,hr23,h⟩:=bS h
                 obtain ⟨g24,h⟩:=gG h
                 refine o 67 (I (r23.1)) rfl rfl (e_callV rfl rfl (call_P rfl rfl rfl (avO (hd1 rfl (hd_hs (path:=[]) rfl rfl (ra_n) rfl)) (avS (shP rfl) (avN))) (Ffu_F hr23) (.inr rfl) (bl_c rfl rfl rfl rfl (bl_n)) rfl rfl rfl)) ?_
                 try rw [len_eqM (f:=enc_Event) (xs:=r11.1) (ys:=r23.2) g24]
                 refine c0 10 [15,90,91] [I (r23.1),.hs 2 0 [] 4 0 ((r23.2).map enc_Event).length,I (1)] 131 (by kernel_rfl) ?_
                 obtain ⟨r25,hr25,h⟩:=bS h
                 refine o 147 (I (r25)) rfl rfl (e_callV rfl rfl (call_P rfl rfl rfl (avS (sh1 rfl rfl (sh_hsM (f:=enc_Event) (g:=enc_Event) (xs:=r23.2) rfl rfl (imms_of enc_Event_imm))) (avS (shP rfl) (avN))) (Fft_F hr25) (.inl (rfl)) (bl_n) rfl rfl rfl)) ?_
                 refine c0 8 [16,94] [I (r25),B ((decide (r25 < 0)))] 195 (by kernel_rfl) ?_
                 refine sc h rfl rfl (fun h=>?_) (fun h=>?_)
                 · refine c0 4 [6] [B (false)] 211 (by kernel_rfl) ?_
                   obtain rfl:=Option.some.inj h
                   exact s_ret rfl ⟨_,fin (vs:=[B (false)]) rfl (absE (absorb_plain rfl) (absEN)) rfl (ou_f (ou_f (ou_f (ou_n)))),kl_n⟩
                 · refine ad 1 rfl ?_
                   refine c0 7 [97] [B ((r25 != r23.1))] 243 (by kernel_rfl) ?_
                   refine sc h rfl rfl (fun h=>?_) (fun h=>?_)
                   · refine c0 4 [6] [B (false)] 259 (by kernel_rfl) ?_
                     obtain rfl:=Option.some.inj h
                     exact s_ret rfl ⟨_,fin (vs:=[B (false)]) rfl (absE (absorb_plain rfl) (absEN)) rfl (ou_f (ou_f (ou_f (ou_n)))),kl_n⟩
                   · refine ad 1 rfl ?_
                     refine c0 3 [99] [.isl false ((aA_1).map enc_Event)] 259 (by kernel_rfl) ?_
                     obtain ⟨r26,hr26,h⟩:=bS h
                     refine o 275 (.hs 259 0 [] 4 0 ((r26).map enc_Event).length) rfl rfl (e_callV rfl rfl (call_P rfl rfl rfl (avS (shP rfl) (avN)) (Ffz_F hr26) (.inr rfl) (bl_n) rfl rfl rfl)) ?_
                     refine c0 1 [101] [.isl false ((aB_2).map enc_Event)] 291 (by kernel_rfl) ?_
                     obtain ⟨r27,hr27,h⟩:=bS h
                     refine o 307 (.hs 291 0 [] 4 0 ((r27).map enc_Event).length) rfl rfl (e_callV rfl rfl (call_P rfl rfl rfl (avS (shP rfl) (avN)) (Ffz_F hr27) (.inr rfl) (bl_n) rfl rfl rfl)) ?_
                     refine c0 1 [103] [I (aParties_3)] 323 (by kernel_rfl) ?_
                     obtain ⟨r28,hr28,h⟩:=bS h
                     refine o 339 (.tup [.hs 323 0 [] 4 0 ((r28.1).map enc_Event).length,B (r28.2)]) rfl rfl (e_callV rfl rfl (call_P rfl rfl rfl (avS (sh1 rfl rfl (sh_hsM (f:=enc_Event) (g:=enc_Event) (xs:=r26) rfl rfl (imms_of enc_Event_imm))) (avS (sh1 rfl rfl (sh_hsM (f:=enc_Event) (g:=enc_Event) (xs:=r27) rfl rfl (imms_of enc_Event_imm))) (avS (shP rfl) (avN)))) (Ffi_F hr28) (.inl (by simp [hasImm,hasImms,str,himm_map (f:=enc_Event) enc_Event_himm])) (bl_n) rfl rfl rfl)) ?_
                     refine c0 11 [18,107,108] [B (r28.2),.hs 323 0 [] 4 0 ((r28.1).map enc_Event).length,.hs 1 0 [] 4 0 ((r8.1).map enc_Event).length] 451 (by kernel_rfl) ?_
                     obtain ⟨r29,hr29,h⟩:=bS h
                     refine o 467 (B (r29)) rfl rfl (e_callV rfl rfl (call_P rfl rfl rfl (avS (sh1 rfl rfl (sh_hsM (f:=enc_Event) (g:=enc_Event) (xs:=r28.1) rfl rfl (imms_of enc_Event_imm))) (avS (sh1 rfl rfl (sh_hsM (f:=enc_Event) (g:=enc_Event) (xs:=r8.1) rfl rfl (imms_of enc_Event_imm))) (avN))) (Ffs_F hr29) (.inl (rfl)) (bl_n) rfl rfl rfl)) ?_
                     refine c0 2 [111] [B ((!r29))] 499 (by kernel_rfl) ?_
                     obtain ⟨u30,hu30,h⟩:=lJ h
                     have j30 : Run laws_FnExactMergeEvents_E 0 (laws_FnExactMergeEvents_Q (aA_1,aB_2,aParties_3) r) (.code (cR (cL (cR (cR (cR (cR (cR (cR (cR (cR (cR (cR (cR (cR (cR (cR (cR (cR (cR (cR (cR (cR (cR (cR (cR (cR laws_FnExactMergeEvents_c)))))))))))))))))))))))))) :: .code (cR (cR (cR (cR (cR (cR (cR (cR (cR (cR (cR (cR (cR (cR (cR (cR (cR (cR (cR (cR (cR (cR (cR (cR (cR laws_FnExactMergeEvents_c))))))))))))))))))))))))) :: []) ⟨mkTm .dead 124 [(12,.hs 1 0 [] 4 0 ((r23.2).map enc_Event).length),(15,I (r23.1)),(115,B (u30))],mkS (rtL [⟨0,4,(r23.2).map enc_Event⟩] 1),2⟩:=by
                       refine sc h rfl rfl (fun h=>?_) (fun h=>?_)
                       · refine c0 4 [6] [B (false)] 18 (by kernel_rfl) ?_
                         obtain rfl:=Option.some.inj h
                         exact s_ret rfl ⟨_,fin (vs:=[B (false)]) rfl (absE (absorb_plain rfl) (absEN)) rfl (ou_f (ou_f (ou_f (ou_n)))),kl_n⟩
                       · refine ad 1 rfl ?_
                         refine c0 8 [116,117] [.hs 1 0 [] 4 0 ((r23.2).map enc_Event).length,I (1)] 50 (by kernel_rfl) ?_
                         obtain ⟨r31,hr31,h⟩:=bS h
                         refine o 66 (I (r31)) rfl rfl (e_callV rfl rfl (call_P rfl rfl rfl (avS (sh1 rfl rfl (sh_hsM (f:=enc_Event) (g:=enc_Event) (xs:=r23.2) rfl rfl (imms_of enc_Event_imm))) (avS (shP rfl) (avN))) (Fft_F hr31) (.inl (rfl)) (bl_n) rfl rfl rfl)) ?_
                         refine c0 8 [16,120] [I (r31),B ((decide (r31 < 0)))] 114 (by kernel_rfl) ?_
                         refine sc h rfl rfl (fun h=>?_) (fun h=>?_)
                         · refine c0 4 [6] [B (false)] 130 (by kernel_rfl) ?_
                           obtain rfl:=Option.some.inj h
                           exact s_ret rfl ⟨_,fin (vs:=[B (false)]) rfl (absE (absorb_plain rfl) (absEN)) rfl (ou_f (ou_f (ou_f (ou_n)))),kl_n⟩
                         · refine ad 1 rfl ?_
                           refine c0 7 [123] [B ((r31 != r23.1))] 162 (by kernel_rfl) ?_
                           refine sc h rfl rfl (fun h=>?_) (fun h=>?_)
                           · refine c0 4 [6] [B (false)] 178 (by kernel_rfl) ?_
                             obtain rfl:=Option.some.inj h
                             exact s_ret rfl ⟨_,fin (vs:=[B (false)]) rfl (absE (absorb_plain rfl) (absEN)) rfl (ou_f (ou_f (ou_f (ou_n)))),kl_n⟩
                           · refine ad 1 rfl ?_
                             refine c0 4 [6] [B (true)] 178 (by kernel_rfl) ?_
                             obtain rfl:=Option.some.inj h
                             exact s_ret rfl ⟨_,fin (vs:=[B (true)]) rfl (absE (absorb_plain rfl) (absEN)) rfl (ou_f (ou_f (ou_f (ou_n)))),kl_n⟩
                     replace h:=hu30
                     clear hu30
                     refine sp 111 h rfl (fun h=>?_) (fun h=>?_)
                     · refine c0 5 [115] [B (true)] 563 (by kernel_rfl) ?_
                       refine run_forget [12,15,115] [2] [⟨1,4,(r23.2).map enc_Event⟩] rfl rfl rfl rfl ?_
                       subst h
                       exact j30
                     · refine c0 5 [115] [B ((!(r28.2 == r8.2)))] 563 (by kernel_rfl) ?_
                       refine run_forget [12,15,115] [2] [⟨1,4,(r23.2).map enc_Event⟩] rfl rfl rfl rfl ?_
                       subst h
                       exact j30
             have r22 : ∀ r',y22=.inl r'→∀ st,laws_FnExactMergeEvents_Q (aA_1,aB_2,aParties_3) r' st→(laws_FnExactMergeEvents_Q (aA_1,aB_2,aParties_3) r) st:=fun r' e st hq=>by rw [hy221 r' e] at hq; exact hq
             replace h:=hy22
             refine sp 76 h rfl (fun h=>?_) (fun h=>?_)
             · refine c0 11 [86] [B (true)] 517 (by kernel_rfl) ?_
               refine run_forget [0,1,2,8,9,12,86] [1,4] [⟨0,4,(r8.1).map enc_Event⟩,⟨0,4,(r11.1).map enc_Event⟩] rfl rfl rfl rfl ?_
               exact j22 _ (Option.some.inj h).symm
             · refine c0 2 [77,78] [.hs 4 0 [] 4 0 ((r11.1).map enc_Event).length,.hs 1 0 [] 4 0 ((r8.1).map enc_Event).length] 389 (by kernel_rfl) ?_
               obtain ⟨r32,hr32,h⟩:=bS h
               refine og 405 (B (r32)) rfl rfl rfl rfl (e_callV rfl rfl (call_P rfl rfl rfl (avS (sh1 rfl rfl (sh_hsM (f:=enc_Event) (g:=enc_Event) (xs:=r11.1) rfl rfl (imms_of enc_Event_imm))) (avS (sh1 rfl rfl (sh_hsM (f:=enc_Event) (g:=enc_Event) (xs:=r8.1) rfl rfl (imms_of enc_Event_imm))) (avN))) (Ffs_F hr32) (.inl (rfl)) (bl_n) rfl rfl rfl)) ?_
               refine c0 3 [82] [B ((!r32))] 453 (by kernel_rfl) ?_
               obtain ⟨u33,hu33,h⟩:=lJ h
               have j33 : Run laws_FnExactMergeEvents_E 0 (laws_FnExactMergeEvents_Q (aA_1,aB_2,aParties_3) r) (.code (cR (cL (cR (cR (cR (cR (cR (cR (cR (cR (cR (cR (cR (cR (cR (cR (cR (cR laws_FnExactMergeEvents_c)))))))))))))))))) :: .code (cR (cR (cR (cR (cR (cR (cR (cR (cR (cR (cR (cR (cR (cR (cR (cR (cR laws_FnExactMergeEvents_c))))))))))))))))) :: []) ⟨mkTm .dead 124 [(0,.isl false ((aA_1).map enc_Event)),(1,.isl false ((aB_2).map enc_Event)),(2,I (aParties_3)),(8,.hs 1 0 [] 4 0 ((r8.1).map enc_Event).length),(9,B (r8.2)),(12,.hs 2 0 [] 4 0 ((r11.1).map enc_Event).length),(86,B (u33))],mkS (rtL [⟨0,4,(r8.1).map enc_Event⟩,⟨0,4,(r11.1).map enc_Event⟩] 1),3⟩:=by
                 refine run_forget [0,1,2,8,9,12,86] [1,2] [⟨0,4,(r8.1).map enc_Event⟩,⟨0,4,(r11.1).map enc_Event⟩] rfl rfl rfl rfl ?_
                 exact j22 _ (Option.some.inj h).symm
               replace h:=hu33
               clear hu33
               refine sp 82 h rfl (fun h=>?_) (fun h=>?_)
               · refine c0 5 [86] [B (true)] 517 (by kernel_rfl) ?_
                 refine run_forget [0,1,2,8,9,12,86] [1,4] [⟨0,4,(r8.1).map enc_Event⟩,⟨0,4,(r11.1).map enc_Event⟩] rfl rfl rfl rfl ?_
                 subst h
                 exact j33
               · refine c0 5 [86] [B ((!(r11.2 == r8.2)))] 517 (by kernel_rfl) ?_
                 refine run_forget [0,1,2,8,9,12,86] [1,4] [⟨0,4,(r8.1).map enc_Event⟩,⟨0,4,(r11.1).map enc_Event⟩] rfl rfl rfl rfl ?_
                 subst h
                 exact j33
     replace h:=hu13
     clear hu13
     refine sp 53 h rfl (fun h=>?_) (fun h=>?_)
     · refine c0 5 [57] [B (true)] 785 (by kernel_rfl) ?_
       refine run_forget [0,1,2,8,9,10,11,12,13,57] [305,417,465,545] [⟨0,4,(r8.1).map enc_Event⟩,⟨0,4,(r9).map enc_Event⟩,⟨0,4,(r10).map enc_Event⟩,⟨0,4,(r11.1).map enc_Event⟩] rfl rfl rfl rfl ?_
       subst h
       exact j13
     · refine c0 5 [57] [B ((!(r11.2 == r8.2)))] 785 (by kernel_rfl) ?_
       refine run_forget [0,1,2,8,9,10,11,12,13,57] [305,417,465,545] [⟨0,4,(r8.1).map enc_Event⟩,⟨0,4,(r9).map enc_Event⟩,⟨0,4,(r10).map enc_Event⟩,⟨0,4,(r11.1).map enc_Event⟩] rfl rfl rfl rfl ?_
       subst h
       exact j13
theorem laws_FnExactMergeEvents_good {G : Go.Ln.Ground} : Good Tryd.prog G 10 laws_FnExactMergeEvents_ent:=good_T (fnOf_good (gl_c Ffx_good (gl_c Ffz_good (gl_c Ffby_good (gl_c Ffi_good (gl_c Ffs_good (gl_c Ffu_good (gl_c Fft_good (gl_n))))))))) agree_mk (Checked.mixed Tryd.checked) Tryd.func10 (n:=3) (m:=0) ⟨rfl,rfl,by decide⟩ (fun _=>⟨rfl,rfl⟩) (fun a r h=>laws_FnExactMergeEvents_run a.1 a.2.1 a.2.2 r h)
end Go.Ln
